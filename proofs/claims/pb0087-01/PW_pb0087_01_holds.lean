import PyProof.Rows.All
import Wide.All
import OpenK.AllK
import Wide.FinOn
import PySem.Challenge.RW_pb0087_01
open PySem PySem.W PyProof.Rows
set_option Elab.async false
set_option maxRecDepth 100000
set_option linter.all false
set_option maxHeartbeats 40000000
set_option compiler.extract_closed false
open_top hd for PySem.Challenge.rw_pb0087_01

section
open PySem PySem.Calls PySem.W PyProof.Rows
namespace Mine

theorem opq {G : Prop} (k : ∀ X : Prop, (G → X) → X) : G := k G id
def tacR : Lean.Syntax := (Lean.Unhygienic.run `(tacticSeq| with_unfolding_all rfl)).raw
abbrev Kn := Addr → Option Obj
abbrev Led := List (Addr × (Obj → Prop))
def Le (B B' : Kn) : Prop := ∀ a o, B a = some o → B' a = some o
theorem Le.rfl {B : Kn} : Le B B := fun _ _ e => e
theorem Le.trans {B B' B'' : Kn} (x : Le B B') (y : Le B' B'') : Le B B'' := fun a o e => y a o (x a o e)

structure St (Z : Shared) (G B : Kn) (L : Addr) (m : Str → Option Value) (led : Led) (s : Shared) : Prop where
  same : ∃ h tk, s = { Z with heap := h, toks := tk }
  ns : s.heap.Ns L m
  kn : ∀ a o, B a = some o → s.heap.get? a = some o
  gh : ∀ a o, G a = some o → s.heap.get? a = some o
  ap : ∀ a o, G a = some o → B a = none
  offB : B L = none
  offG : G L = none
  own : ∀ p ∈ led, ∃ o, s.heap.get? p.1 = some o ∧ p.2 o
  ownL : ∀ p ∈ led, p.1 ≠ L
  ownB : ∀ p ∈ led, B p.1 = none
  ownG : ∀ p ∈ led, G p.1 = none
  nd : (led.map (·.1)).Nodup

def know (B : Kn) (a : Addr) (o : Obj) : Kn := fun b => if b = a then some o else B b
theorem know_same {B : Kn} {a : Addr} {o : Obj} : know B a o a = some o := by simp [know]
theorem le_know {B : Kn} {a : Addr} {o : Obj} (h : B a = none) : Le B (know B a o) := fun b x e => by
  unfold know
  split
  · rename_i q; subst q; rw [h] at e; cases e
  · exact e

def upd (m : Str → Option Value) (x : Str) (v : Value) : Str → Option Value := fun y => if y = x then some v else m y
theorem upd_same {m : Str → Option Value} {x : Str} {v : Value} : upd m x v x = some v := by simp [upd]
theorem upd_nx {m : Str → Option Value} {x y : Str} {v : Value} {r : Option Value} (h : y ≠ x) (k : m y = r) : upd m x v y = r := by simp [upd, h, k]
theorem upd_ne {m : Str → Option Value} {x y : Str} {v : Value} (h : y ≠ x) : upd m x v y = m y := by simp [upd, h]

variable {Z : Shared} {G B : Kn} {L : Addr} {m : Str → Option Value} {led : Led} {s : Shared}

theorem St.tok (I : St Z G B L m led s) (t : Nat) : St Z G B L m led { s with toks := t } := by
  obtain ⟨⟨h, tk, rfl⟩, a2, a3, a4, a5, a6, a7, a8, a9, b1, b2, b3⟩ := I
  exact ⟨⟨h, t, rfl⟩, a2, a3, a4, a5, a6, a7, a8, a9, b1, b2, b3⟩

theorem St.keeps (I : St Z G B L m led s) {h' : Heap} {t : Nat} (hk : ∀ a o, s.heap.get? a = some o → h'.get? a = some o) : St Z G B L m led { s with heap := h', toks := t } := by
  obtain ⟨⟨h, tk, rfl⟩, a2, a3, a4, a5, a6, a7, a8, a9, b1, b2, b3⟩ := I
  exact ⟨⟨h', t, rfl⟩, a2.keeps hk, fun a o e => hk a o (a3 a o e), fun a o e => hk a o (a4 a o e), a5, a6, a7, fun p hp => (a8 p hp).imp fun o q => ⟨hk _ _ q.1, q.2⟩, a9, b1, b2, b3⟩

theorem St.push (I : St Z G B L m led s) (o : Obj) : St Z G B L m led { s with heap := s.heap.push o } :=
  I.keeps (t := s.toks) fun _ _ e => Heap.get?_push_of_some o e

theorem St.store (I : St Z G B L m led s) {h' : Heap} {t : Nat} {x : Str} {v : Value} (hn : h'.Ns L (fun y => if y = x then some v else m y)) (hs : Heap.SameBut L s.heap h') : St Z G B L (upd m x v) led { s with heap := h', toks := t } := by
  obtain ⟨⟨h, tk, rfl⟩, a2, a3, a4, a5, a6, a7, a8, a9, b1, b2, b3⟩ := I
  refine ⟨⟨h', t, rfl⟩, hn, fun a o e => ?_, fun a o e => ?_, a5, a6, a7, fun p hp => ?_, a9, b1, b2, b3⟩
  · exact (hs.2 a (fun q => by subst q; rw [a6] at e; cases e)).trans (a3 a o e)
  · exact (hs.2 a (fun q => by subst q; rw [a7] at e; cases e)).trans (a4 a o e)
  · obtain ⟨o, e, q⟩ := a8 p hp
    exact ⟨o, (hs.2 p.1 (a9 p hp)).trans e, q⟩

theorem fresh_none {h : Heap} : h.get? h.objs.size = none := by
  cases e : h.get? h.objs.size with
  | none => rfl
  | some o => exact absurd (Heap.lt_size e) (Nat.lt_irrefl _)
theorem St.freshB (I : St Z G B L m led s) : B s.heap.objs.size = none := by
  cases e : B s.heap.objs.size with
  | none => rfl
  | some o => have := I.kn _ _ e; rw [fresh_none] at this; cases this
theorem St.freshG (I : St Z G B L m led s) : G s.heap.objs.size = none := by
  cases e : G s.heap.objs.size with
  | none => rfl
  | some o => have := I.gh _ _ e; rw [fresh_none] at this; cases this
theorem St.freshL (I : St Z G B L m led s) : s.heap.objs.size ≠ L := fun q => by
  obtain ⟨o, _, _, e, _⟩ := I.ns
  rw [← q, fresh_none] at e; cases e
theorem St.freshO (I : St Z G B L m led s) : ∀ p ∈ led, p.1 ≠ s.heap.objs.size := fun p hp q => by
  obtain ⟨o, e, _⟩ := I.own p hp
  rw [q, fresh_none] at e; cases e

theorem St.pushKnow (I : St Z G B L m led s) {o : Obj} (hf : o.isFreed = false) : St Z G (know B s.heap.objs.size o) L m led { s with heap := s.heap.push o } := by
  have f1 := I.freshG
  have f2 := I.freshL
  have f3 := I.freshO
  obtain ⟨a1, a2, a3, a4, a5, a6, a7, a8, a9, b1, b2, b3⟩ := I.push o
  refine ⟨a1, a2, fun a x e => ?_, a4, fun a x e => ?_, ?_, a7, a8, a9, fun p hp => ?_, b2, b3⟩
  · unfold know at e
    split at e
    · rename_i q; subst q; cases e; exact Heap.get?_push_size _ hf
    · exact a3 a x e
  · unfold know
    rw [if_neg (fun q => by subst q; rw [f1] at e; cases e)]; exact a5 a x e
  · unfold know
    rw [if_neg (fun q => f2 q.symm)]; exact a6
  · unfold know
    rw [if_neg (f3 p hp)]; exact b1 p hp

theorem St.pushOwn (I : St Z G B L m led s) {o : Obj} {P : Obj → Prop} (hf : o.isFreed = false) (hp : P o) : St Z G B L m ((s.heap.objs.size, P) :: led) { s with heap := s.heap.push o } := by
  have f0 := I.freshB
  have f1 := I.freshG
  have f2 := I.freshL
  have f3 := I.freshO
  obtain ⟨a1, a2, a3, a4, a5, a6, a7, a8, a9, b1, b2, b3⟩ := I.push o
  refine ⟨a1, a2, a3, a4, a5, a6, a7, fun p hp' => ?_, fun p hp' => ?_, fun p hp' => ?_, fun p hp' => ?_, ?_⟩
  · rcases List.mem_cons.mp hp' with rfl | h
    · exact ⟨o, Heap.get?_push_size _ hf, hp⟩
    · exact a8 p h
  · rcases List.mem_cons.mp hp' with rfl | h
    · exact f2
    · exact a9 p h
  · rcases List.mem_cons.mp hp' with rfl | h
    · exact f0
    · exact b1 p h
  · rcases List.mem_cons.mp hp' with rfl | h
    · exact f1
    · exact b2 p h
  · refine List.nodup_cons.mpr ⟨fun hm => ?_, b3⟩
    obtain ⟨p, hp', e⟩ := List.mem_map.mp hm
    exact f3 p hp' e

theorem St.perm (I : St Z G B L m led s) {led' : Led} (h : led.Perm led') : St Z G B L m led' s := by
  obtain ⟨a1, a2, a3, a4, a5, a6, a7, a8, a9, b1, b2, b3⟩ := I
  exact ⟨a1, a2, a3, a4, a5, a6, a7, fun p hp => a8 p (h.mem_iff.mpr hp), fun p hp => a9 p (h.mem_iff.mpr hp), fun p hp => b1 p (h.mem_iff.mpr hp), fun p hp => b2 p (h.mem_iff.mpr hp), (h.map _).nodup_iff.mp b3⟩

theorem St.chg (I : St Z G B L m ((d, P) :: led) s) {h' : Heap} {t : Nat} {o' : Obj} {P' : Obj → Prop} (hs : Heap.SameBut d s.heap h') (he : h'.get? d = some o') (hp : P' o') : St Z G B L m ((d, P') :: led) { s with heap := h', toks := t } := by
  obtain ⟨⟨h, tk, rfl⟩, a2, a3, a4, a5, a6, a7, a8, a9, b1, b2, b3⟩ := I
  have dL : d ≠ L := a9 (d, P) (.head _)
  have dB : B d = none := b1 (d, P) (.head _)
  have dG : G d = none := b2 (d, P) (.head _)
  obtain ⟨n1, n2⟩ := List.nodup_cons.mp b3
  refine ⟨⟨h', t, rfl⟩, a2.sameBut hs (Ne.symm dL), fun a o e => ?_, fun a o e => ?_, a5, a6, a7, fun p hp' => ?_, fun p hp' => ?_, fun p hp' => ?_, fun p hp' => ?_, b3⟩
  · exact (hs.2 a (fun q => by subst q; rw [dB] at e; cases e)).trans (a3 a o e)
  · exact (hs.2 a (fun q => by subst q; rw [dG] at e; cases e)).trans (a4 a o e)
  · rcases List.mem_cons.mp hp' with rfl | hm
    · exact ⟨o', he, hp⟩
    · obtain ⟨o, e, q⟩ := a8 p (.tail _ hm)
      exact ⟨o, (hs.2 p.1 (fun z => n1 (List.mem_map.mpr ⟨p, hm, z⟩))).trans e, q⟩
  · rcases List.mem_cons.mp hp' with rfl | hm
    · exact dL
    · exact a9 p (.tail _ hm)
  · rcases List.mem_cons.mp hp' with rfl | hm
    · exact dB
    · exact b1 p (.tail _ hm)
  · rcases List.mem_cons.mp hp' with rfl | hm
    · exact dG
    · exact b2 p (.tail _ hm)

theorem St.weak (I : St Z G B L m ((d, P) :: led) s) {P' : Obj → Prop} (hp : ∀ o, P o → P' o) : St Z G B L m ((d, P') :: led) s := by
  obtain ⟨a1, a2, a3, a4, a5, a6, a7, a8, a9, b1, b2, b3⟩ := I
  refine ⟨a1, a2, a3, a4, a5, a6, a7, fun p hp' => ?_, fun p hp' => ?_, fun p hp' => ?_, fun p hp' => ?_, b3⟩
  · rcases List.mem_cons.mp hp' with rfl | hm
    · obtain ⟨o, e, q⟩ := a8 (d, P) (.head _); exact ⟨o, e, hp o q⟩
    · exact a8 p (.tail _ hm)
  · rcases List.mem_cons.mp hp' with rfl | hm
    · exact a9 (d, P) (.head _)
    · exact a9 p (.tail _ hm)
  · rcases List.mem_cons.mp hp' with rfl | hm
    · exact b1 (d, P) (.head _)
    · exact b1 p (.tail _ hm)
  · rcases List.mem_cons.mp hp' with rfl | hm
    · exact b2 (d, P) (.head _)
    · exact b2 p (.tail _ hm)

theorem St.head (I : St Z G B L m ((d, P) :: led) s) : ∃ o, s.heap.get? d = some o ∧ P o := I.own (d, P) (.head _)

theorem St.freeze (I : St Z G B L m ((d, P) :: led) s) : ∃ B' o, Le B B' ∧ B' d = some o ∧ P o ∧ St Z G B' L m led s := by
  obtain ⟨a1, a2, a3, a4, a5, a6, a7, a8, a9, b1, b2, b3⟩ := I
  obtain ⟨o, e, q⟩ := a8 (d, P) (.head _)
  obtain ⟨n1, n2⟩ := List.nodup_cons.mp b3
  refine ⟨know B d o, o, le_know (b1 (d, P) (.head _)), know_same, q, a1, a2, fun a x z => ?_, a4, fun a x z => ?_, ?_, a7, fun p hp => a8 p (.tail _ hp), fun p hp => a9 p (.tail _ hp), fun p hp => ?_, fun p hp => b2 p (.tail _ hp), n2⟩
  · unfold know at z
    split at z
    · rename_i r; subst r; cases z; exact e
    · exact a3 a x z
  · unfold know
    rw [if_neg (fun r => by subst r; have := b2 (a, P) (.head _); rw [this] at z; cases z)]; exact a5 a x z
  · unfold know
    rw [if_neg (fun r => a9 (d, P) (.head _) r.symm)]; exact a6
  · unfold know
    rw [if_neg (fun r => n1 (List.mem_map.mpr ⟨p, hp, r⟩))]; exact b1 p (.tail _ hp)

theorem St.drop (I : St Z G B L m ((d, P) :: led) s) : St Z G B L m led s := by
  obtain ⟨a1, a2, a3, a4, a5, a6, a7, a8, a9, b1, b2, b3⟩ := I
  exact ⟨a1, a2, a3, a4, a5, a6, a7, fun p hp => a8 p (.tail _ hp), fun p hp => a9 p (.tail _ hp), fun p hp => b1 p (.tail _ hp), fun p hp => b2 p (.tail _ hp), (List.nodup_cons.mp b3).2⟩

def held (G : Kn) (h : Heap) (L : Addr) (lk : Led) : Kn := fun a => if a = L ∨ a ∈ lk.map (·.1) then h.get? a else G a

theorem St.enter {lp lk : Led} (I : St Z G B L m (lp ++ lk) s) {h' : Heap} {t : Nat} {L' : Addr} {m' : Str → Option Value} (hL : s.heap.get? L' = none) (hn : h'.Ns L' m') (hk : ∀ a o, s.heap.get? a = some o → h'.get? a = some o) :
    St Z (held G s.heap L lk) B L' m' lp { s with heap := h', toks := t } := by
  obtain ⟨⟨h, tk, rfl⟩, a2, a3, a4, a5, a6, a7, a8, a9, b1, b2, b3⟩ := I
  have hG : ∀ a o, held G h L lk a = some o → h.get? a = some o := fun a o e => by
    unfold held at e
    split at e
    · exact e
    · exact a4 a o e
  have np : ∀ p ∈ lp, ¬ (p.1 = L ∨ p.1 ∈ lk.map (·.1)) := fun p hp q => by
    rcases q with q | q
    · exact a9 p (List.mem_append_left _ hp) q
    · rw [List.map_append] at b3
      exact (List.nodup_append.mp b3).2.2 p.1 (List.mem_map_of_mem hp) p.1 q rfl
  refine ⟨⟨h', t, rfl⟩, hn, fun a o e => hk a o (a3 a o e), fun a o e => hk a o (hG a o e), fun a o e => ?_, ?_, ?_, fun p hp => (a8 p (List.mem_append_left _ hp)).imp fun o q => ⟨hk _ _ q.1, q.2⟩, fun p hp => ?_, fun p hp => b1 p (List.mem_append_left _ hp), fun p hp => ?_, ?_⟩
  · unfold held at e
    split at e
    · rename_i q
      rcases q with q | q
      · rw [q]; exact a6
      · obtain ⟨p, hp, rfl⟩ := List.mem_map.mp q
        exact b1 p (List.mem_append_right _ hp)
    · exact a5 a o e
  · cases e : B L' with
    | none => rfl
    | some o => have := a3 _ _ e; rw [hL] at this; cases this
  · cases e : held G h L lk L' with
    | none => rfl
    | some o => have := hG _ _ e; rw [hL] at this; cases this
  · intro q
    obtain ⟨o, e, _⟩ := a8 p (List.mem_append_left _ hp)
    rw [q, hL] at e; cases e
  · unfold held
    rw [if_neg (np p hp)]; exact b2 p (List.mem_append_left _ hp)
  · rw [List.map_append] at b3
    exact (List.nodup_append.mp b3).1

theorem St.leave {lp lk lp' : Led} {B' : Kn} {L' : Addr} {m' : Str → Option Value} {s' : Shared} (I : St Z G B L m (lp ++ lk) s) (J : St Z (held G s.heap L lk) B' L' m' lp' s') : St Z G B' L m (lp' ++ lk) s' := by
  obtain ⟨_, a2, a3, a4, a5, a6, a7, a8, a9, b1, b2, b3⟩ := I
  obtain ⟨c1, c2, c3, c4, c5, c6, c7, c8, c9, d1, d2, d3⟩ := J
  have hl : ∀ p ∈ lk, held G s.heap L lk p.1 = s.heap.get? p.1 := fun p hp => by
    unfold held
    rw [if_pos (.inr (List.mem_map_of_mem hp))]
  have hLL : held G s.heap L lk L = s.heap.get? L := by unfold held; rw [if_pos (.inl rfl)]
  obtain ⟨oL, es, ep, hoL, r⟩ := a2
  have nL : ∀ a, held G s.heap L lk a = none → a ≠ L := fun a e q => by rw [q, hLL, hoL] at e; cases e
  refine ⟨c1, ⟨oL, es, ep, c4 L oL (hLL.trans hoL), r⟩, c3, fun a o e => ?_, fun a o e => ?_, ?_, a7, fun p hp => ?_, fun p hp => ?_, fun p hp => ?_, fun p hp => ?_, ?_⟩
  · have q : held G s.heap L lk a = some o := by
      unfold held
      split
      · exact a4 a o e
      · exact e
    exact c4 a o q
  · have q : held G s.heap L lk a = some o := by
      unfold held
      split
      · exact a4 a o e
      · exact e
    exact c5 a o q
  · exact c5 L oL (hLL.trans hoL)
  · rcases List.mem_append.mp hp with q | q
    · exact c8 p q
    · obtain ⟨o, e, z⟩ := a8 p (List.mem_append_right _ q)
      exact ⟨o, c4 _ _ ((hl p q).trans e), z⟩
  · rcases List.mem_append.mp hp with q | q
    · exact nL _ (d2 p q)
    · exact a9 p (List.mem_append_right _ q)
  · rcases List.mem_append.mp hp with q | q
    · exact d1 p q
    · obtain ⟨o, e, z⟩ := a8 p (List.mem_append_right _ q)
      exact c5 _ _ ((hl p q).trans e)
  · rcases List.mem_append.mp hp with q | q
    · have h1 := d2 p q
      unfold held at h1
      split at h1
      · rename_i z
        rcases z with z | z
        · exact absurd z (nL _ (d2 p q))
        · obtain ⟨p', hp', e'⟩ := List.mem_map.mp z
          rw [← e']; exact b2 p' (List.mem_append_right _ hp')
      · exact h1
    · exact b2 p (List.mem_append_right _ q)
  · rw [List.map_append]
    refine List.nodup_append.mpr ⟨d3, ?_, fun a ha b hb e => ?_⟩
    · rw [List.map_append] at b3; exact (List.nodup_append.mp b3).2.1
    · obtain ⟨p, hp, rfl⟩ := List.mem_map.mp ha
      obtain ⟨p', hp', rfl⟩ := List.mem_map.mp hb
      have h1 := d2 p hp
      obtain ⟨o, e1, z⟩ := a8 p' (List.mem_append_right _ hp')
      rw [e, hl p' hp', e1] at h1; cases h1

end Mine
end

section
open PySem PySem.Calls PySem.W PyProof.Rows
namespace Mine

noncomputable abbrev KK (w : World) : Frag := hd.heap_39 w.params

structure Amb (w : World) (B : Kn) : Prop where
  kin : ∀ a o, (KK w).lookup a = some o → B a = some o
  b : ∃ ob es ep, B builtinsNs = some ob ∧ ob.data = .dict es ep ∧ StrKeys es ∧ ∀ x : Str, x ≠ "__name__" → nsFind es x = bootBuiltins x
  lim : ∃ ob es ep, B cStatics = some ob ∧ ob.data = .dict es ep ∧ StrKeys es ∧ nsFind es "sys.recursionlimit" = none
theorem Amb.mono {w : World} {B B' : Kn} (h : Amb w B) (l : Le B B') : Amb w B' :=
  ⟨fun a o e => l a o (h.kin a o e), let ⟨ob, es, ep, e, r⟩ := h.b; ⟨ob, es, ep, l _ _ e, r⟩, let ⟨ob, es, ep, e, r⟩ := h.lim; ⟨ob, es, ep, l _ _ e, r⟩⟩

variable {Z : Shared} {G B : Kn} {L : Addr} {m : Str → Option Value} {led : Led} {s : Shared} {w : World} {prog : Program} {A : Around} {E : Value → Shared → Prop}

theorem St.kin (I : St Z G B L m led s) (hB : Amb w B) : (KK w).In s.heap := fun a o e => I.kn a o (hB.kin a o e)
theorem St.bns (I : St Z G B L m led s) (hB : Amb w B) : ∃ mb, s.heap.Ns builtinsNs mb ∧ ∀ x : Str, x ≠ "__name__" → mb x = bootBuiltins x := by
  obtain ⟨ob, es, ep, e, hd, hk, hf⟩ := hB.b
  exact ⟨fun x => nsFind es x, ⟨ob, es, ep, I.kn _ _ e, hd, hk, fun _ => rfl⟩, hf⟩
theorem St.lim (I : St Z G B L m led s) (hB : Amb w B) : s.heap.NoLimit := by
  obtain ⟨ob, es, ep, e, hd, hk, hf⟩ := hB.lim
  exact ⟨fun x => nsFind es x, ⟨ob, es, ep, I.kn _ _ e, hd, hk, fun _ => rfl⟩, hf⟩

structure Ar (n : Nat) (A : Around) : Prop where
  h : A.handled = none
  d : A.depth + 10 * n ≤ 900
  u : A.units + 100 * n ≤ 9000
theorem Ar.deeper {n : Nat} {A : Around} (h : Ar (n + 1) A) (env : Env) : Ar n (A.deeper env) := ⟨h.h, by have := h.d; show A.depth + 1 + 10 * n ≤ 900; first | lia | omega, by have := h.u; show A.units + 3 + 100 * n ≤ 9000; first | lia | omega⟩
theorem Ar.room {n : Nat} {A : Around} (h : Ar n A) : A.depth < recursionLimit := by have := h.d; show A.depth < 1000; first | lia | omega
theorem Ar.units' {n : Nat} {A : Around} (h : Ar n A) : A.units < cLine := by have := h.u; show A.units < 9900; first | lia | omega
theorem Ar.in1 {n : Nat} {A : Around} (h : Ar n A) : A.in1.units < cLine := by have := h.u; show A.units + 1 < 9900; first | lia | omega
theorem Ar.le {n k : Nat} {A : Around} (h : Ar n A) (hk : k ≤ n) : Ar k A := ⟨h.h, by have := h.d; first | lia | omega, by have := h.u; first | lia | omega⟩
theorem Ar.dn {n k j : Nat} {A : Around} (h : Ar (n + k) A) (q : autoParam (Nat.ble j k = true) tacR) : Ar (n + j) A := h.le (Nat.add_le_add_left (Nat.le_of_ble_eq_true q) n)
theorem Ar.dn0 {n k j : Nat} {A : Around} (h : Ar (n + k) A) (q : autoParam (Nat.ble j k = true) tacR) : Ar (0 + j) A := h.le (by rw [Nat.zero_add]; exact Nat.le_trans (Nat.le_of_ble_eq_true q) (Nat.le_add_left _ _))

def Hk {α : Type} (K F : α → Shared → Prop) : Prop := ∀ v s, F v s → K v s
theorem Hk.go {α : Type} {K F : α → Shared → Prop} {v : α} {s : Shared} (h : Hk K F) (k : F v s) : K v s := h _ _ k
theorem Hk.self {α : Type} {F : α → Shared → Prop} : Hk F F := fun _ _ q => q

section names
variable {env : Env} {x : Str} {pos : Pos} {v : Value} {Q : Value → Shared → Prop}

def okN (k : NameKind) (env : Env) (x : Str) : Bool := (env.scope.kind == .function && env.kindOf x == some k) && !(x == ("__debug__" : Str))
theorem okN_kind {k : NameKind} (h : okN k env x = true) : env.scope.kind = .function := by
  unfold okN at h; rw [Bool.and_eq_true, Bool.and_eq_true] at h; exact eq_of_beq h.1.1
theorem okN_of {k : NameKind} (h : okN k env x = true) : env.kindOf x = some k := by
  unfold okN at h; rw [Bool.and_eq_true, Bool.and_eq_true] at h; exact eq_of_beq h.1.2
theorem okN_dbg {k : NameKind} (h : okN k env x = true) : (x == ("__debug__" : Str)) = false := by
  unfold okN at h; rw [Bool.and_eq_true] at h; exact Bool.not_eq_true' _ |>.mp h.2
theorem ev_local (I : St Z G B L m led s) (ho : okN .local env x = true) (hv : m x = some v) (h : Q v s) (hL : autoParam (env.locals = L) tacR) :
    wpAny (model prog w) A (eval (.Name x pos) env) Q E s := wpAny_Name (wpAny_loadName_local (okN_kind ho) (okN_of ho) (hL ▸ I.ns) hv h) (okN_dbg ho)

theorem ev_global (I : St Z G B L m led s) (hB : Amb w B) (e : nsIn (KK w) mainGlobals x = some (some v)) (h : Q v s) (hg : autoParam (env.globals = mainGlobals) tacR) (ho : autoParam (okN .globalImplicit env x = true) tacR) :
    wpAny (model prog w) A (eval (.Name x pos) env) Q E s := by
  refine Name_function_global (okN_kind ho) (okN_of ho) ?_ (okN_dbg ho)
  unfold loadGlobal
  rw [hg]
  exact wpAny_bind ((looks_nsIn (I.kin hB) e).here (wpAny_pure h))

theorem ev_builtin (I : St Z G B L m led s) (hB : Amb w B) (e : nsIn (KK w) mainGlobals x = some none) (hv : bootBuiltins x = some v) (h : Q v s) (hn : x ≠ "__name__" := by decide) (hg : autoParam (env.globals = mainGlobals) tacR) (hb : autoParam (env.builtins = builtinsNs) tacR) (ho : autoParam (okN .globalImplicit env x = true) tacR) :
    wpAny (model prog w) A (eval (.Name x pos) env) Q E s := by
  refine Name_function_global (okN_kind ho) (okN_of ho) ?_ (okN_dbg ho)
  unfold loadGlobal
  rw [hg, hb]
  obtain ⟨mb, b1, b2⟩ := I.bns hB
  refine wpAny_bind ((looks_nsIn (I.kin hB) e).here ?_)
  refine wpAny_bind (wpAny_nsGet b1 ?_)
  rw [b2 x hn, hv]
  exact wpAny_pure h

theorem ev_cell (I : St Z G B L m led s) {c : Addr} {o : Obj} (hc : env.cells.lookup x = some c) (ho : B c = some o) (hv : o.data = .cell (some v)) (h : Q v s) (hk : autoParam (okN .cell env x = true) tacR) :
    wpAny (model prog w) A (eval (.Name x pos) env) Q E s := wpAny_Name (wpAny_loadName_cell (okN_kind hk) (okN_of hk) hc ⟨o, I.kn _ _ ho, hv⟩ h) (okN_dbg hk)

theorem st_local {Q : Unit → Shared → Prop} (I : St Z G B L m led s) (h : ∀ s', St Z G B L (upd m x v) led s' → Q () s') (hL : autoParam (env.locals = L) tacR) (ho : autoParam (okN .local env x = true) tacR) :
    wpAny (model prog w) A (storeName env x v) Q E s :=
  wpAny_storeName_local (okN_of ho) (hL ▸ I.ns) (fun h' hn hs => h _ (I.store (hL ▸ hn) (hL ▸ hs))) (by rw [(okN_kind ho)]; rfl)
end names

section consts
variable {env : Env} {pos : Pos} {k : Nat} {Q : Value → Shared → Prop}
theorem ev_int {i : Int} (I : St Z G B L m led s) (h : ∀ t s', St Z G B L m led s' → Q (.int i t) s') : wpAny (model prog w) A (eval (.Constant (.int i) k pos) env) Q E s := wpAny_Constant_int (h _ _ (I.tok _))
theorem ev_bytes {b : List UInt8} (I : St Z G B L m led s) (h : ∀ t s', St Z G B L m led s' → Q (.bytes b.toArray t) s') : wpAny (model prog w) A (eval (.Constant (.bytes b) k pos) env) Q E s := fun _ _ _ => h _ _ (I.tok _)
theorem ev_str {x : Str} (I : St Z G B L m led s) (h : ∀ t s', St Z G B L m led s' → Q (.str x t) s') : wpAny (model prog w) A (eval (.Constant (.str x) k pos) env) Q E s := fun _ _ _ => h _ _ (I.tok _)
theorem ev_none (h : Q .none s) : wpAny (model prog w) A (eval (.Constant .none k pos) env) Q E s := fun _ _ _ => h
theorem ev_bool {b : Bool} (h : Q (.bool b) s) : wpAny (model prog w) A (eval (.Constant (.bool b) k pos) env) Q E s := fun _ _ _ => h
end consts

theorem call_fn {n : Nat} {lp lk : Led} {Q : Value → Shared → Prop} {name qual : Str} {params : Arguments} {body : List Stmt} {scope : Scope} {dV kV doc pm cdv ct oc : Value} {an od : Option Addr} {osl : Array (Option Value)} {f : Addr} {args : Args} {binds : List (Str × Value)}
    (hA : Ar (n + 1) A) (I : St Z G B L m (lp ++ lk) s) (hB : Amb w B)
    (ho : (KK w).lookup f = some ⟨oc, od, .func (fnOf name qual params body scope dV kV doc pm an cdv ct), osl⟩) (hcd : codeIn (KK w) cdv qual = true)
    (hbind : BindsTo s (fnOf name qual params body scope dV kV doc pm an cdv ct) args binds) (hloc : (binds.all fun x => decide (scope.names.lookup x.1 = some .local)) = true)
    (h : ∀ G' L' m₁ s₁ (A' : Around) (P : Flow → Shared → Prop), (∀ v s' B' m' led', Le B B' → St Z G' B' L' m' led' s' → (St Z G B' L m (led' ++ lk) s' → Q v s') → P (.ret v) s') → Ar n A' → (∀ y, m₁ y = binds.reverse.lookup y) → St Z G' B L' m₁ lp s₁ →
      wpAny (model prog w) A' (execs body (envOf qual scope L' f cdv)) P (fun _ _ => False) s₁)
    (hco : autoParam (scope.isCoroutine = false) tacR) (hgen : autoParam (scope.isGenerator = false) tacR) (hk : autoParam (scope.kind = .function) tacR)
    (hcell : ∀ x ∈ scope.names, x.2 ≠ .cell := by decide) : wpAny (model prog w) A (call (.ref f) args.pos args.kw) Q E s := by
  refine wpAny_call ?_
  refine codeAny_call_def (fd := fnOf name qual params body scope dV kV doc pm an cdv ct) (body := body) (binds := binds) hA.room (I.kin hB _ _ ho) rfl (I.lim hB) (codeRec_of (I.kin hB) hcd) rfl hbind hcell (locs hloc) (fun h₁ hns hk₁ => ?_) hco hgen hk
  refine wpAny_mono (h _ s.heap.objs.size _ _ _ (fun fl s' => ∃ B' m' led', St Z (held G s.heap L lk) B' s.heap.objs.size m' led' s' ∧ (St Z G B' L m (led' ++ lk) s' → Q (match fl with | .ret v => v | _ => .none) s')) (fun _ _ B' m' led' _ J k => ⟨B', m', led', J, k⟩) (hA.deeper _) (fun _ => rfl) (I.enter (t := s.toks + binds.length) fresh_none hns hk₁)) (fun fl s' q => ?_) fun _ _ q => q.elim
  obtain ⟨B', m', led', J, k⟩ := q
  exact k (I.leave J)

end Mine
end

section
open PySem PySem.Calls PySem.W PyProof.Rows
namespace Mine

variable {Z : Shared} {G B : Kn} {L : Addr} {m : Str → Option Value} {led : Led} {s : Shared} {w : World} {prog : Program} {A : Around} {E : Value → Shared → Prop}

def LP (its : List Value) (o : Obj) : Prop := ∃ n, o = listOf its.toArray n
def LI (its : List Value) (o : Obj) : Prop := o.cls = .type "list" ∧ ∃ n, o.data = .seq its.toArray n
theorem LP.li {its : List Value} {o : Obj} (h : LP its o) : LI its o := by obtain ⟨n, rfl⟩ := h; exact ⟨rfl, n, rfl⟩
def IsL (B : Kn) (a : Addr) (its : List Value) : Prop := ∃ o, B a = some o ∧ LI its o
theorem IsL.mono {B B' : Kn} {a : Addr} {its : List Value} (h : IsL B a its) (l : Le B B') : IsL B' a its := let ⟨o, e, r⟩ := h; ⟨o, l _ _ e, r⟩
theorem IsL.at (h : IsL B a its) (I : St Z G B L m led s) : s.heap.IsList a its.toArray := let ⟨o, e, c, n, d⟩ := h; ⟨o, I.kn _ _ e, c, n, d⟩
theorem St.headP (I : St Z G B L m ((d, LP its) :: led) s) : s.heap.IsList d its.toArray := let ⟨o, e, n, q⟩ := I.head; ⟨o, e, by rw [q], n, by rw [q]⟩
def IsT (B : Kn) (a : Addr) (its : List Value) : Prop := ∃ n, B a = some { cls := .type "tuple", data := .seq its.toArray n }
theorem IsT.mono {B B' : Kn} {a : Addr} {its : List Value} (h : IsT B a its) (l : Le B B') : IsT B' a its := let ⟨n, e⟩ := h; ⟨n, l _ _ e⟩

section IntR
variable {a b : Int} {t u : Tok} {Q : Value → Shared → Prop}
theorem bits_le {a : Int} (h : -(2 ^ 62) ≤ a ∧ a ≤ 2 ^ 62) : Builtin.Int.intBits a ≤ 64 := by
  unfold Builtin.Int.intBits
  have h1 : a.natAbs ≤ 2 ^ 62 := by omega
  split
  · omega
  · have : a.natAbs.log2 < 63 := by
      rename_i hz
      rw [Nat.log2_lt (by intro z; exact hz (by simpa using z))]; omega
    omega
theorem r_add (I : St Z G B L m led s) (h : ∀ t' s', St Z G B L m led s' → Q (.int (a + b) t') s') : wpAny (model prog w) A (binaryOp .Add (.int a t) (.int b u)) Q E s := add_int (h _ _ (I.tok _))
theorem r_sub (I : St Z G B L m led s) (h : ∀ t' s', St Z G B L m led s' → Q (.int (a - b) t') s') : wpAny (model prog w) A (binaryOp .Sub (.int a t) (.int b u)) Q E s := sub_int (h _ _ (I.tok _))
theorem r_mul (I : St Z G B L m led s) (hb : (-(2 ^ 62) ≤ a ∧ a ≤ 2 ^ 62) ∨ (-(2 ^ 62) ≤ b ∧ b ≤ 2 ^ 62)) (h : ∀ t' s', St Z G B L m led s' → Q (.int (a * b) t') s') : wpAny (model prog w) A (binaryOp .Mult (.int a t) (.int b u)) Q E s :=
  mul_int (h _ _ (I.tok _)) (hb.elim (fun h => IntMulOk.of_left (bits_le h)) fun h => IntMulOk.of_right (bits_le h))
theorem r_mod (I : St Z G B L m led s) (hb : 0 < b) (h : ∀ t' s', St Z G B L m led s' → Q (.int (a % b) t') s') : wpAny (model prog w) A (binaryOp .Mod (.int a t) (.int b u)) Q E s := by
  refine mod_int' (by omega) ?_
  rw [Int.fmod_eq_emod_of_nonneg _ (by omega)]
  exact h _ _ (I.tok _)
theorem no_pylong {a b : Int} (h : 0 < b ∧ b ≤ 2 ^ 62) : Builtin.divisionGoesByPylong a b = false := by
  unfold Builtin.divisionGoesByPylong
  have hz : (b == 0) = false := by simp; omega
  have : b.natAbs.log2 < 63 := by
    rw [Nat.log2_lt (by omega)]; omega
  simp only [hz, Bool.false_eq_true, if_false]
  have : ¬ (b.natAbs.log2 / 30 + 1 > 300) := by omega
  simp [this]
theorem r_fdiv (I : St Z G B L m led s) (hb : 0 < b ∧ b ≤ 2 ^ 62) (h : ∀ t' s', St Z G B L m led s' → Q (.int (a / b) t') s') : wpAny (model prog w) A (binaryOp .FloorDiv (.int a t) (.int b u)) Q E s := by
  refine floordiv_int (by omega) ?_ (.inl (no_pylong hb))
  rw [Int.fdiv_eq_ediv_of_nonneg _ (by omega)]
  exact h _ _ (I.tok _)
theorem r_iadd (I : St Z G B L m led s) (h : ∀ t' s', St Z G B L m led s' → Q (.int (a + b) t') s') : wpAny (model prog w) A (inplaceOp .Add (.int a t) (.int b u)) Q E s := wpAny_iadd_int (h _ _ (I.tok _))
end IntR

def HkN (K : Value → Shared → Prop) (F : Shared → Prop) : Prop := ∀ s, F s → K .none s
theorem HkN.go {K : Value → Shared → Prop} {F : Shared → Prop} (h : HkN K F) (k : F s) : K .none s := h _ k

def HkA (L : Addr) (x : Str) (K : Value → Shared → Prop) (F : Shared → Prop) : Prop := ∀ v s₁ Z G B m led, St Z G B L m led s₁ → (∀ s₂, St Z G B L (upd m x v) led s₂ → F s₂) → K v s₁
theorem HkA.go {L' : Addr} {x : Str} {v : Value} {K : Value → Shared → Prop} {F : Shared → Prop} (h : HkA L' x K F) (I : St Z G B L m led s) (k : ∀ s₂, St Z G B L (upd m x v) led s₂ → F s₂) (hL : autoParam (L' = L) tacR) : K v s := by
  subst hL; exact h _ _ _ _ _ _ _ I k

section StmtR
variable {env : Env} {Q : Flow → Shared → Prop}
theorem execs_app (l₁ l₂ : List Stmt) (env : Env) : execs (l₁ ++ l₂) env = (do match ← execs l₁ env with | .next => execs l₂ env | f => pure f) := by
  induction l₁ with
  | nil => rw [execs_nil, pure_bind]; rfl
  | cons st rest ih =>
    rw [List.cons_append, execs_cons, execs_cons, bind_assoc]
    congr 1
    funext f
    cases f with
    | next => exact ih
    | _ => rw [pure_bind]

theorem x_if {test : Expr} {body orelse rest : List Stmt} {pos : Pos}
    (h : ∀ K : Bool → Shared → Prop, Hk K (fun b s₂ => (b = true → wpAny (model prog w) A (execs (body ++ rest) env) Q E s₂) ∧ (b = false → wpAny (model prog w) A (execs (orelse ++ rest) env) Q E s₂)) → wpAny (model prog w) A (isTrue test env (eval test env)) K E s) :
    wpAny (model prog w) A (execs (.If test body orelse pos :: rest) env) Q E s := by
  have h := h _ Hk.self
  have e : execs (.If test body orelse pos :: rest) env = (do standAt pos; let b ← isTrue test env (eval test env); if b then execs (body ++ rest) env else execs (orelse ++ rest) env) := by
    rw [execs_cons, exec_If, bind_assoc, execs_app, execs_app]
    congr 1; funext _
    rw [bind_assoc]
    congr 1; funext b
    cases b <;> rfl
  rw [e]
  refine wpAny_bind (wpAny_standAt (wpAny_bind (wpAny_mono h (fun b s₂ h₂ => ?_) fun _ _ x => x)))
  cases b
  · exact h₂.2 rfl
  · exact h₂.1 rfl

theorem x_assign {x : Str} {px : Pos} {value : Expr} {pos : Pos} {rest : List Stmt}
    (h : ∀ K : Value → Shared → Prop, HkA env.locals x K (fun s₂ => wpAny (model prog w) A (execs rest env) Q E s₂) → wpAny (model prog w) A (eval value env) K E s)
    (ho : autoParam (okN .local env x = true) tacR) (hs : autoParam (swapsWith value (some (.Name x px)) pos.line env = pure false) tacR) : wpAny (model prog w) A (execs (.Assign [.Name x px] value pos :: rest) env) Q E s :=
  wpAny_execs_cons (wpAny_Assign_Name (h _ fun _ _ _ _ _ _ _ I k => st_local I k rfl ho) hs)

theorem x_aug {x : Str} {px : Pos} {op : Operator} {value : Expr} {pos : Pos} {rest : List Stmt}
    (h : ∀ K : Value → Shared → Prop, HkA env.locals x K (fun s₂ => wpAny (model prog w) A (execs rest env) Q E s₂) →
      wpAny (model prog w) A (loadName env x) (fun old s₁ => wpAny (model prog w) A (eval value env) (fun v s₂ => wpAny (model prog w) A (inplaceOp op old v) K E s₂) E s₁) E s) (ho : autoParam (okN .local env x = true) tacR) :
    wpAny (model prog w) A (execs (.AugAssign (.Name x px) op value pos :: rest) env) Q E s :=
  wpAny_execs_cons (wpAny_AugAssign_Name (h _ fun _ _ _ _ _ _ _ I k => st_local I k rfl ho))

theorem x_setsub {o i : Expr} {pos' pos : Pos} {value : Expr} {rest : List Stmt}
    (h : ∀ K : Value → Shared → Prop, Hk K (fun v s₁ => wpAny (model prog w) A (eval o env) (fun ov s₂ => wpAny (model prog w) A (eval i env) (fun iv s₃ => wpAny (model prog w) A (setItem ov iv v) (fun _ s₄ => wpAny (model prog w) A (execs rest env) Q E s₄) E s₃) E s₂) E s₁) →
      wpAny (model prog w) A (eval value env) K E s)
    (hs : autoParam (swapsWith value (some (.Subscript o i pos')) pos.line env = pure false) tacR) : wpAny (model prog w) A (execs (.Assign [.Subscript o i pos'] value pos :: rest) env) Q E s :=
  wpAny_execs_cons (wpAny_Assign_Subscript (h _ Hk.self) hs)

theorem x_return {e : Expr} {pos : Pos} {rest : List Stmt} (h : wpAny (model prog w) A (eval e env) (fun v => Q (.ret v)) E s) : wpAny (model prog w) A (execs (.Return (some e) pos :: rest) env) Q E s :=
  wpAny_execs_cons (wpAny_Return_some h)

theorem x_nil (h : Q .next s) : wpAny (model prog w) A (execs [] env) Q E s := wpAny_execs_nil h

theorem x_expr {e : Expr} {pos : Pos} {rest : List Stmt} (h : ∀ K : Value → Shared → Prop, HkN K (fun s₁ => wpAny (model prog w) A (execs rest env) Q E s₁) → wpAny (model prog w) A (eval e env) K E s)
    (hi : autoParam (interactive env = false) tacR) (hs : autoParam (swapsWith e none pos.line env = pure false) tacR) : wpAny (model prog w) A (execs (.Expr e pos :: rest) env) Q E s :=
  wpAny_execs_cons (wpAny_Expr (wpAny_mono (h (fun v s₁ => v = .none ∧ wpAny (model prog w) A (execs rest env) Q E s₁) (fun s q => ⟨rfl, q⟩)) (fun v s₁ h₁ => by obtain ⟨rfl, q⟩ := h₁; exact q) fun _ _ x => x) hi hs)
end StmtR
end Mine
end

section
open PySem PySem.Calls PySem.W PyProof.Rows
namespace Mine

variable {Z : Shared} {G B : Kn} {L : Addr} {m : Str → Option Value} {led : Led} {s : Shared} {w : World} {prog : Program} {A : Around} {E : Value → Shared → Prop}

theorem eqAt_bytes (b c : Array UInt8) (t u : Tok) : SeqAt.EqAt A s (.bytes b t) (.bytes c u) (decide (b = c)) := fun prog w E Q h => by
  unfold eqBool
  refine wpAny_holding (wpAny_ite_split (fun hab => ?_) (fun _ => ?_))
  · have e := eq_of_beq hab
    injection e with e1 e2
    rw [decide_eq_true e1] at h
    exact wpAny_bind (wpAny_rule (wpAny_pure h))
  · refine wpAny_bind (PySem.W.eq_bytes (wpAny_truthy_bool ?_))
    have : (b.toList == c.toList) = decide (b = c) := by
      by_cases q : b = c
      · subst q; simp
      · rw [decide_eq_false q]
        exact beq_eq_false_iff_ne.mpr fun z => q (Array.toList_inj.mp z)
    rw [this]; exact h

inductive All2 {α β : Type} (R : α → β → Prop) : List α → List β → Prop
  | nil : All2 R [] []
  | cons {a : α} {b : β} {l : List α} {r : List β} : R a b → All2 R l r → All2 R (a :: l) (b :: r)
namespace All2
variable {α β : Type} {R : α → β → Prop}
theorem length {l : List α} {r : List β} (h : All2 R l r) : l.length = r.length := by induction h with | nil => rfl | cons _ _ ih => simp [ih]
theorem get {l : List α} {r : List β} (h : All2 R l r) : ∀ (i : Nat) (h1 : i < l.length) (h2 : i < r.length), R l[i] r[i] := by
  induction h with
  | nil => intro i h1; cases h1
  | cons hd _ ih =>
    intro i h1 h2
    cases i with
    | zero => exact hd
    | succ i => exact ih i (Nat.lt_of_succ_lt_succ h1) (Nat.lt_of_succ_lt_succ h2)
theorem imp {S : α → β → Prop} {l : List α} {r : List β} (h : All2 R l r) (f : ∀ a b, R a b → S a b) : All2 S l r := by induction h with | nil => exact .nil | cons hd _ ih => exact .cons (f _ _ hd) ih
theorem app {l l' : List α} {r r' : List β} (h : All2 R l r) (h' : All2 R l' r') : All2 R (l ++ l') (r ++ r') := by induction h with | nil => exact h' | cons hd _ ih => exact .cons hd ih
theorem take {l : List α} {r : List β} (h : All2 R l r) : ∀ n, All2 R (l.take n) (r.take n) := by
  induction h with
  | nil => intro n; simp only [List.take_nil]; exact .nil
  | cons hd _ ih => intro n; cases n with | zero => exact .nil | succ n => exact .cons hd (ih n)
theorem drop {l : List α} {r : List β} (h : All2 R l r) : ∀ n, All2 R (l.drop n) (r.drop n) := by
  induction h with
  | nil => intro n; simp only [List.drop_nil]; exact .nil
  | cons hd t ih => intro n; cases n with | zero => exact .cons hd t | succ n => exact ih n
theorem get? {l : List α} {r : List β} (h : All2 R l r) {i : Nat} {b : β} (e : r[i]? = some b) : ∃ a, l[i]? = some a ∧ R a b := by
  obtain ⟨h2, rfl⟩ := List.getElem?_eq_some_iff.mp e
  have h1 : i < l.length := h.length ▸ h2
  exact ⟨l[i], by simp [h1], h.get i h1 h2⟩
theorem get?L {l : List α} {r : List β} (h : All2 R l r) {i : Nat} {a : α} (e : l[i]? = some a) : ∃ b, r[i]? = some b ∧ R a b := by
  obtain ⟨h1, rfl⟩ := List.getElem?_eq_some_iff.mp e
  have h2 : i < r.length := h.length ▸ h1
  exact ⟨r[i], by simp [h2], h.get i h1 h2⟩
end All2

def EqR {D : Type} [DecidableEq D] (s : Shared) (R : Value → D → Prop) : Prop := ∀ A v v' d d', A.units < cLine → R v d → R v' d' → SeqAt.EqAt A s v v' (decide (d = d'))

theorem all_range_eq {D : Type} [DecidableEq D] (ds es : List D) (hl : ds.length = es.length) : ((List.range ds.length).all fun i => decide (ds[i]? = es[i]?)) = decide (ds = es) := by
  by_cases q : ds = es
  · subst q; simp
  · rw [decide_eq_false q]
    apply Bool.eq_false_iff.mpr
    intro z
    rw [List.all_eq_true] at z
    refine q (List.ext_getElem? fun i => ?_)
    by_cases hi : i < ds.length
    · exact of_decide_eq_true (z i (List.mem_range.mpr hi))
    · rw [List.getElem?_eq_none (by first | lia | omega), List.getElem?_eq_none (by first | lia | omega)]

theorem eq_items {D : Type} [DecidableEq D] {R : Value → D → Prop} (hR : EqR s R) (hu : A.units < cLine) {vs us : List Value} {ds es : List D} (h1 : All2 R vs ds) (h2 : All2 R us es) (j : Nat) (i1 : j < vs.toArray.size) (i2 : j < us.toArray.size) :
    SeqAt.EqAt A s vs.toArray[j] us.toArray[j] (decide (ds[j]? = es[j]?)) := by
  have i1' : j < vs.length := by simpa using i1
  have i2' : j < us.length := by simpa using i2
  have k1 : j < ds.length := h1.length ▸ i1'
  have k2 : j < es.length := h2.length ▸ i2'
  have := hR A _ _ _ _ hu (h1.get j i1' k1) (h2.get j i2' k2)
  have e : decide (ds[j]? = es[j]?) = decide (ds[j] = es[j]) := by
    rw [List.getElem?_eq_getElem k1, List.getElem?_eq_getElem k2]
    by_cases q : ds[j] = es[j]
    · rw [q]; simp
    · rw [decide_eq_false q]; simp [q]
  rw [e]
  simpa using this

section
variable {D : Type} [DecidableEq D] {R : Value → D → Prop} {l b : Addr} {vs us : List Value} {ds es : List D} {Q : Value → Shared → Prop}
theorem rc_lists (hR : EqR s R) (hu : A.in1.units < cLine) (hl : s.heap.IsList l vs.toArray) (hb : s.heap.IsList b us.toArray) (h1 : All2 R vs ds) (h2 : All2 R us es) : SeqAt.RcAt A s (.ref l) (.ref b) (decide (ds = es)) := by
  have hu' : A.units < cLine := Nat.lt_of_succ_lt hu
  by_cases hsz : ds.length = es.length
  · have e1 : vs.toArray.size = us.toArray.size := by simp [h1.length, h2.length, hsz]
    have := SeqAt.RcAt.lists (e := fun j => decide (ds[j]? = es[j]?)) hl hb e1 hu' (fun j i1 i2 => eq_items hR hu h1 h2 j i1 i2)
    rw [List.size_toArray, h1.length, all_range_eq _ _ hsz] at this
    exact this
  · have q : decide (ds = es) = false := decide_eq_false fun z => hsz (by rw [z])
    rw [q]
    exact SeqAt.RcAt.lists_lengths hl hb (by simp [h1.length, h2.length, hsz]) hu'
theorem rcne_lists (hR : EqR s R) (hu : A.in1.units < cLine) (hl : s.heap.IsList l vs.toArray) (hb : s.heap.IsList b us.toArray) (h1 : All2 R vs ds) (h2 : All2 R us es) : SeqAt.RcNeAt A s (.ref l) (.ref b) (!decide (ds = es)) := by
  have hu' : A.units < cLine := Nat.lt_of_succ_lt hu
  by_cases hsz : ds.length = es.length
  · have e1 : vs.toArray.size = us.toArray.size := by simp [h1.length, h2.length, hsz]
    have := SeqAt.RcNeAt.lists (e := fun j => decide (ds[j]? = es[j]?)) hl hb e1 hu' (fun j i1 i2 => eq_items hR hu h1 h2 j i1 i2)
    rw [List.size_toArray, h1.length, all_range_eq _ _ hsz] at this
    exact this
  · have q : decide (ds = es) = false := decide_eq_false fun z => hsz (by rw [z])
    rw [q]
    exact SeqAt.RcNeAt.lists_lengths hl hb (by simp [h1.length, h2.length, hsz]) hu'
theorem r_eq_lists (hR : EqR s R) (hu : A.in1.units < cLine) (hl : s.heap.IsList l vs.toArray) (hb : s.heap.IsList b us.toArray) (h1 : All2 R vs ds) (h2 : All2 R us es) (h : Q (.bool (decide (ds = es))) s) :
    wpAny (model prog w) A (compareOp .Eq (.ref l) (.ref b)) Q E s := rc_lists hR hu hl hb h1 h2 prog w E Q h
theorem r_ne_lists (hR : EqR s R) (hu : A.in1.units < cLine) (hl : s.heap.IsList l vs.toArray) (hb : s.heap.IsList b us.toArray) (h1 : All2 R vs ds) (h2 : All2 R us es) (h : Q (.bool (!decide (ds = es))) s) :
    wpAny (model prog w) A (compareOp .NotEq (.ref l) (.ref b)) Q E s := rcne_lists hR hu hl hb h1 h2 prog w E Q h
end

abbrev Bt := Array UInt8
def RB (v : Value) (b : Bt) : Prop := ∃ t, v = .bytes b t
def RI (v : Value) (i : Int) : Prop := ∃ t, v = .int i t
def RR (B : Kn) (v : Value) (r : Bt × Bt) : Prop := ∃ p t u, v = .ref p ∧ IsT B p [.bytes r.1 t, .bytes r.2 u]
theorem RR.mono {B B' : Kn} {v : Value} {r : Bt × Bt} (h : RR B v r) (l : Le B B') : RR B' v r := let ⟨p, t, u, e, q⟩ := h; ⟨p, t, u, e, q.mono l⟩
theorem eqR_B : EqR s RB := by rintro A v v' d d' _ ⟨t, rfl⟩ ⟨u, rfl⟩; exact eqAt_bytes _ _ _ _
theorem eqR_I : EqR s RI := by
  rintro A v v' d d' _ ⟨t, rfl⟩ ⟨u, rfl⟩
  have := SeqAt.EqAt.int_int (A := A) (s := s) d t d' u
  have e : (d == d') = decide (d = d') := by by_cases q : d = d' <;> simp [q]
  rwa [e] at this
end Mine
end

section
open PySem PySem.Calls PySem.W PyProof.Rows
namespace Mine

variable {Z : Shared} {G B : Kn} {L : Addr} {m : Str → Option Value} {led : Led} {s : Shared} {w : World} {prog : Program} {A : Around} {E : Value → Shared → Prop} {d : Addr} {P : Obj → Prop}

def plainSub (e : Expr) : Bool := e.ctorIdx != 26
theorem plain_sub {slice : Expr} {o i : Value} (h : plainSub slice = true) : subscripted slice false o i = operate [o, i] (getItem o i) := by
  cases slice <;> first | rfl | exact Bool.noConfusion (show false = true from h)

def DP (prog : Program) (w : World) (kvs : List (Str × Value)) (o : Obj) : Prop :=
  ∃ es ep, o.ExactDict ∧ o.data = .dict es ep ∧ KeysOf (strKind prog w) es ∧ Pairs (strKind prog w) es.toList kvs ∧ (kvs.map (·.1)).Nodup
theorem St.headD {kvs : List (Str × Value)} (I : St Z G B L m ((d, DP prog w kvs) :: led) s) : s.heap.DictOf (strKind prog w) d kvs :=
  let ⟨o, e, es, ep, a, b, c, f, g⟩ := I.head; ⟨o, es, ep, e, a, b, c, f, g⟩

section
variable {Q : Value → Shared → Prop} {value slice : Expr} {x : Str} {t : Tok} {kvs : List (Str × Value)} {v : Value}
theorem t_dget (I : St Z G B L m ((d, DP prog w kvs) :: led) s) (hv : valueAt kvs x = some v) (h : ∀ s', St Z G B L m ((d, DP prog w kvs) :: led) s' → Q v s')
    (hs : autoParam (plainSub slice = true) tacR) :
    wpAny (model prog w) A (subscriptTail value slice (.ref d) (.str x t)) Q E s :=
  tail_any I.headD.mapOf.typeIs slot_dict_getitem.lookup (wpAny_getItem_of (strKind_is prog w x t) I.headD.mapOf hv (h _ (I.tok _))) (plain_sub hs)
theorem r_dset {Q : Unit → Shared → Prop} (I : St Z G B L m ((d, DP prog w kvs) :: led) s) (hz : kvs.length ≤ 100) (h : ∀ s', St Z G B L m ((d, DP prog w (stored kvs x v)) :: led) s' → Q () s') :
    wpAny (model prog w) A (setItem (.ref d) (.str x t) v) Q E s := by
  refine wpAny_setItem_pairs (strKind_is prog w x t) I.headD (fun h' hm hs => ?_) (by rw [sizeLine_eq]; first | lia | omega)
  obtain ⟨o, es, ep, e, r⟩ := hm
  exact h _ (I.chg hs e ⟨es, ep, r⟩)
end

section
variable {Q : Value → Shared → Prop} {env : Env} {pos : Pos} {elts : List Expr} {its : List Value} {v : Value} {value slice : Expr} {t : Tok}
theorem e_list_nil (I : St Z G B L m led s) (h : ∀ a s', St Z G B L m ((a, LP []) :: led) s' → Q (.ref a) s') : wpAny (model prog w) A (eval (.List [] pos) env) Q E s := by
  refine List_ (wpAny_items_nil ?_)
  exact wpAny_newList (h _ _ (I.pushOwn rfl ⟨0, rfl⟩)) (by simp [sizeLine_eq])
theorem e_list (h : wpAny (model prog w) A (spliced (backTo pos (starEach elts env))) (fun vs s₁ => wpAny (model prog w) A (newList vs) Q E s₁) E s) : wpAny (model prog w) A (eval (.List elts pos) env) Q E s := List_ h
theorem e_tuple {k : Nat} (h : wpAny (model prog w) A (spliced (backTo pos (starEach elts env))) (fun vs s₁ => wpAny (model prog w) A (newTuple vs) Q E s₁) E s) : wpAny (model prog w) A (eval (.Tuple elts k pos) env) Q E s := Tuple_ h
theorem r_newList {vs : List Value} (I : St Z G B L m led s) (hz : vs.length ≤ 1000) (h : ∀ a s', St Z G B L m ((a, LP vs) :: led) s' → Q (.ref a) s') : wpAny (model prog w) A (newList vs) Q E s :=
  wpAny_newList (h _ _ (I.pushOwn rfl ⟨0, rfl⟩)) (by rw [sizeLine_eq]; first | lia | omega)
theorem r_newTuple {vs : List Value} (I : St Z G B L m led s) (hz : vs.length ≤ 1000) (h : ∀ a B' s', Le B B' → IsT B' a vs → St Z G B' L m led s' → Q (.ref a) s') : wpAny (model prog w) A (newTuple vs) Q E s :=
  wpAny_newObj_type (h _ _ _ (le_know I.freshB) ⟨0, know_same⟩ (I.pushKnow rfl)) (by show vs.toArray.size ≤ sizeLine; rw [sizeLine_eq, List.size_toArray]; first | lia | omega)

theorem r_pop {y : Value} (I : St Z G B L m ((d, LP (its ++ [y])) :: led) s) (hz : its.length ≤ 1000) (h : ∀ s', St Z G B L m ((d, LP its) :: led) s' → Q y s') : wpAny (model prog w) A (call (.builtin "list.pop") [.ref d]) Q E s := by
  obtain ⟨o, e, n, rfl⟩ := I.head
  refine Copied.pop_at e (y := y) (by simp) (fun h' hs he => h _ (I.chg (t := s.toks) hs he ⟨n + 1, ?_⟩)) (by rw [sizeLine_eq, List.size_toArray, List.length_append, List.length_singleton]; first | lia | omega)
  simp [PySem.W.listOf]
theorem r_append (I : St Z G B L m ((d, LP its) :: led) s) (hz : its.length ≤ 1000) (h : ∀ s', St Z G B L m ((d, LP (its ++ [v])) :: led) s' → Q .none s') : wpAny (model prog w) A (call (.builtin "list.append") [.ref d, v]) Q E s := by
  obtain ⟨o, e, n, rfl⟩ := I.head
  refine wpAny_list_append_plain ⟨n, e⟩ (fun h' hp hs => ?_) (by rw [sizeLine_eq, List.size_toArray]; first | lia | omega)
  obtain ⟨n', e'⟩ := hp
  exact h _ (I.chg (t := s.toks) hs e' ⟨n', by simp [PySem.W.listOf]⟩)

theorem St.ownLP (I : St Z G B L m ((d, LP its) :: led) s) : ∃ ob, s.heap.get? d = some ob ∧ ob.cls = .type "list" ∧ ob.dict = none := by
  obtain ⟨o, e, n, rfl⟩ := I.head; exact ⟨_, e, rfl, rfl⟩
theorem m_pop {o : Expr} {apos : Pos} (h : ∀ K : Value → Shared → Prop, (∀ {Z G B L m led d its s₁}, St Z G B L m ((d, LP its) :: led) s₁ → wpAny (model prog w) A (call (.builtin "list.pop") [.ref d]) Q E s₁ → K (.ref d) s₁) → wpAny (model prog w) A (eval o env) K E s)
    (hbase : autoParam (attributeBase o "pop" env (eval o env) = eval o env) tacR) (hline : autoParam ((apos.endLine == pos.line) = true) tacR) : wpAny (model prog w) A (eval (.Call (.Attribute o "pop" apos) [] [] pos) env) Q E s := by
  have h := h (fun ov s₁ => ∃ d ob, ov = .ref d ∧ s₁.heap.get? d = some ob ∧ ob.cls = .type "list" ∧ ob.dict = none ∧ wpAny (model prog w) A (call (.builtin "list.pop") [.ref d]) Q E s₁) (fun {_ _ _ _ _ _ d _ _} I q => let ⟨ob, q1, q2, q3⟩ := I.ownLP; ⟨d, ob, rfl, q1, q2, q3, q⟩)
  refine wpAny_Call_method_late hbase rfl hline rfl (wpAny_mono h (fun ov s₁ h₁ => ?_) fun _ _ x => x)
  obtain ⟨d, ob, rfl, e, c, dn, hc⟩ := h₁
  exact ⟨"list", "list.pop", PySem.F.plainAttrs_list, PySem.F.slot_list_pop, PySem.F.type_list_pop, ⟨ob, e, c⟩, fun a q => by cases q; exact ⟨ob, e, dn⟩, callWith_method0 (env := env) hc⟩
theorem m_append {o e : Expr} {apos : Pos} (h : ∀ K : Value → Shared → Prop, (∀ {Z G B L m led d its s₁}, St Z G B L m ((d, LP its) :: led) s₁ → wpAny (model prog w) A (eval e env) (fun v s₂ => wpAny (model prog w) A (call (.builtin "list.append") [.ref d, v]) Q E s₂) E s₁ → K (.ref d) s₁) → wpAny (model prog w) A (eval o env) K E s)
    (hbase : autoParam (attributeBase o "append" env (eval o env) = eval o env) tacR) (hse : autoParam (starEach [e] env = [(false, eval e env)]) tacR) (hline : autoParam ((apos.endLine == pos.line) = true) tacR) : wpAny (model prog w) A (eval (.Call (.Attribute o "append" apos) [e] [] pos) env) Q E s := by
  have h := h (fun ov s₁ => ∃ d ob, ov = .ref d ∧ s₁.heap.get? d = some ob ∧ ob.cls = .type "list" ∧ ob.dict = none ∧ wpAny (model prog w) A (eval e env) (fun v s₂ => wpAny (model prog w) A (call (.builtin "list.append") [.ref d, v]) Q E s₂) E s₁) (fun {_ _ _ _ _ _ d _ _} I q => let ⟨ob, q1, q2, q3⟩ := I.ownLP; ⟨d, ob, rfl, q1, q2, q3, q⟩)
  refine wpAny_Call_method_late hbase (by rw [hse]; rfl) hline rfl (wpAny_mono h (fun ov s₁ h₁ => ?_) fun _ _ x => x)
  obtain ⟨d, ob, rfl, e', c, dn, hc⟩ := h₁
  refine ⟨"list", "list.append", PySem.F.plainAttrs_list, slot_list_append, type_list_append, ⟨ob, e', c⟩, fun a q => by cases q; exact ⟨ob, e', dn⟩, ?_⟩
  exact callWith_method1 (env := env) (wpAny_items_cons (wpAny_mono hc (fun v s₂ h₂ => wpAny_items_nil h₂) fun _ _ x => x) (by rw [hse]; rfl)) (by rw [hse]; rfl)
end
end Mine
end

section
open PySem PySem.Calls PySem.W PyProof.Rows
namespace Mine

variable {Z : Shared} {G B : Kn} {L : Addr} {m : Str → Option Value} {led : Led} {s : Shared} {w : World} {prog : Program} {A : Around} {E : Value → Shared → Prop} {d c : Addr} {P : Obj → Prop}

theorem St.open1 {X : Type} {R : X → Prop} {P' : X → Obj → Prop} (I : St Z G B L m ((d, P) :: led) s) (h : ∀ o, P o → ∃ x, R x ∧ P' x o) : ∃ x, R x ∧ St Z G B L m ((d, P' x) :: led) s := by
  obtain ⟨a1, a2, a3, a4, a5, a6, a7, a8, a9, b1, b2, b3⟩ := I
  obtain ⟨o, e, q⟩ := a8 (d, P) (.head _)
  obtain ⟨x, r, q'⟩ := h o q
  refine ⟨x, r, a1, a2, a3, a4, a5, a6, a7, fun p hp' => ?_, fun p hp' => ?_, fun p hp' => ?_, fun p hp' => ?_, b3⟩
  · rcases List.mem_cons.mp hp' with rfl | hm
    · exact ⟨o, e, q'⟩
    · exact a8 p (.tail _ hm)
  · rcases List.mem_cons.mp hp' with rfl | hm
    · exact a9 (d, P) (.head _)
    · exact a9 p (.tail _ hm)
  · rcases List.mem_cons.mp hp' with rfl | hm
    · exact b1 (d, P) (.head _)
    · exact b1 p (.tail _ hm)
  · rcases List.mem_cons.mp hp' with rfl | hm
    · exact b2 (d, P) (.head _)
    · exact b2 p (.tail _ hm)
theorem St.swap {p q : Addr × (Obj → Prop)} (I : St Z G B L m (p :: q :: led) s) : St Z G B L m (q :: p :: led) s := I.perm (.swap _ _ _)

section
variable {env : Env} {x : Str} {pos : Pos} {p : Pos} {args : List Expr} {e : Expr} {rest : List Expr} {Q : Value → Shared → Prop} {f : Value}
def noStar (e : Expr) : Bool := e.ctorIdx != 22
theorem noStar_he {env : Env} (h : noStar e = true) : starEach (e :: rest) env = (false, eval e env) :: starEach rest env := by
  cases e <;> first | rfl | exact Bool.noConfusion (show false = true from h)
theorem noStar_any {env : Env} {l : List Expr} (h : l.all noStar = true) : (backTo pos (starEach l env)).any (·.1) = false := by
  induction l with
  | nil => rfl
  | cons e r ih =>
    rw [List.all_cons, Bool.and_eq_true] at h
    rw [noStar_he h.1]
    show (false || (backTo pos (starEach r env)).any (·.1)) = false
    rw [ih h.2]; rfl
theorem star1 {l : List Expr} (h : (e :: l).all noStar = true) : noStar e = true := by rw [List.all_cons, Bool.and_eq_true] at h; exact h.1
theorem star2 {l : List Expr} (h : (e :: l).all noStar = true) : l.all noStar = true := by rw [List.all_cons, Bool.and_eq_true] at h; exact h.2
theorem i_cons {Q : List Value → Shared → Prop} (h : wpAny (model prog w) A (eval e env) (fun v s₁ => wpAny (model prog w) A (spliced (backTo pos (starEach rest env))) (fun vs s₂ => Q (v :: vs) s₂) E s₁) E s) (hn : autoParam (noStar e = true) tacR) :
    wpAny (model prog w) A (spliced (backTo pos (starEach (e :: rest) env))) Q E s := wpAny_items_cons h (noStar_he hn)
theorem e_cmp1 {l r : Expr} {op : CmpOp} (h : wpAny (model prog w) A (eval l env) (fun a s₁ => wpAny (model prog w) A (eval r env) (fun b s₂ => wpAny (model prog w) A (compareOp op a b) Q E s₂) E s₁) E s) (hb : autoParam (behindInMarks op r = false) tacR) :
    wpAny (model prog w) A (eval (.Compare l [op] [r] pos) env) Q E s := wpAny_Compare1 h hb
theorem t_cmp1 {l r : Expr} {op : CmpOp} {whole : Sem Value} {Q : Bool → Shared → Prop} (h : wpAny (model prog w) A (eval l env) (fun a s₁ => wpAny (model prog w) A (eval r env) (fun b s₂ => wpAny (model prog w) A (compareOp op a b) (fun c => wpAny (model prog w) A (truthy c) Q E) E s₂) E s₁) E s) (hb : autoParam (behindInMarks op r = false) tacR) :
    wpAny (model prog w) A (isTrue (.Compare l [op] [r] pos) env whole) Q E s := wpAny_isTrue_Compare1 h hb
theorem t_call {f : Expr} {kw : List Keyword} {whole : Sem Value} {Q : Bool → Shared → Prop} (h : wpAny (model prog w) A whole (fun v => wpAny (model prog w) A (truthy v) Q E) E s) : wpAny (model prog w) A (isTrue (.Call f args kw pos) env whole) Q E s := wpAny_isTrue_value h
theorem t_name {whole : Sem Value} {Q : Bool → Shared → Prop} (h : wpAny (model prog w) A whole (fun v => wpAny (model prog w) A (truthy v) Q E) E s) : wpAny (model prog w) A (isTrue (.Name x pos) env whole) Q E s := wpAny_isTrue_value h
def biTab : List (Str × Value) := [("len", .builtin "len"), ("range", .type "range"), ("max", .builtin "max"), ("min", .builtin "min"), ("abs", .builtin "abs"), ("list", .type "list"), ("tuple", .type "tuple"), ("int", .type "int")]
theorem biTab_ok {w : World} {v : Value} : ∀ p ∈ biTab, nsIn (KK w) mainGlobals p.1 = some none ∧ bootBuiltins p.1 = some p.2 ∧ p.1 ≠ "__name__" := by
  intro p hp
  simp only [biTab, List.mem_cons, List.not_mem_nil, or_false] at hp
  rcases hp with rfl | rfl | rfl | rfl | rfl | rfl | rfl | rfl <;> exact ⟨by rfl, by rfl, by decide⟩
theorem mem_lookup {l : List (Str × Value)} {y : Str} {v : Value} (h : l.lookup y = some v) : (y, v) ∈ l := by
  induction l with
  | nil => cases h
  | cons p r ih =>
    obtain ⟨a, b⟩ := p
    rw [List.lookup_cons] at h
    by_cases q : y = a
    · subst q
      rw [beq_self_eq_true] at h
      cases h; exact .head _
    · rw [beq_eq_false_iff_ne.mpr q] at h
      exact .tail _ (ih h)
theorem ev_bi {v : Value} (I : St Z G B L m led s) (hB : Amb w B) (hx : biTab.lookup x = some v) (h : Q v s) (hg : autoParam (env.globals = mainGlobals) tacR) (hb : autoParam (env.builtins = builtinsNs) tacR) (ho : autoParam (okN .globalImplicit env x = true) tacR) :
    wpAny (model prog w) A (eval (.Name x pos) env) Q E s :=
  have q := biTab_ok (w := w) (v := v) _ (mem_lookup hx)
  ev_builtin I hB q.1 q.2.1 h q.2.2 hg hb ho
theorem e_call (h : wpAny (model prog w) A (eval (.Name x p) env) (fun f s₁ => wpAny (model prog w) A (callWith pos f [] (backTo pos (starEach args env)) []) Q E s₁) E s) : wpAny (model prog w) A (eval (.Call (.Name x p) args [] pos) env) Q E s := wpAny_Call_NameR h
theorem c_def {a : Addr} (I : St Z G B L m led s) (hB : Amb w B) (hk : keepIn (KK w) (.ref a) = true) (h : wpAny (model prog w) A (spliced (backTo pos (starEach (e :: rest) env))) (fun vs s₁ => (KK w).In s₁.heap ∧ wpAny (model prog w) A (call (.ref a) vs) Q E s₁) E s) (hn : autoParam ((e :: rest).all noStar = true) tacR) :
    wpAny (model prog w) A (callWith pos (.ref a) [] (backTo pos (starEach (e :: rest) env)) []) Q E s := callWith_K (I.kin hB) hk h (noStar_he (star1 hn)) (noStar_any (star2 hn))
theorem c_builtin {id : String} (h : wpAny (model prog w) A (spliced (backTo pos (starEach (e :: rest) env))) (fun vs s₁ => wpAny (model prog w) A (call (.builtin id) vs) Q E s₁) E s) (hn : autoParam ((e :: rest).all noStar = true) tacR) :
    wpAny (model prog w) A (callWith pos (.builtin id) [] (backTo pos (starEach (e :: rest) env)) []) Q E s := callWith_method1 (first := []) h (noStar_he (star1 hn)) (noStar_any (star2 hn))
theorem c_type {T : String} (h : wpAny (model prog w) A (spliced (backTo pos (starEach (e :: rest) env))) (fun vs s₁ => wpAny (model prog w) A (call (.type T) vs) Q E s₁) E s) (hn : autoParam ((e :: rest).all noStar = true) tacR) :
    wpAny (model prog w) A (callWith pos (.type T) [] (backTo pos (starEach (e :: rest) env)) []) Q E s := PyProof.Rows.callWith_type1 h (noStar_he (star1 hn)) (noStar_any (star2 hn))
end
def HkD (w : World) (K F : List Value → Shared → Prop) : Prop := ∀ vs s₁, (KK w).In s₁.heap → F vs s₁ → K vs s₁
theorem HkD.go {K F : List Value → Shared → Prop} {vs : List Value} (h : HkD w K F) (I : St Z G B L m led s) (hB : Amb w B) (k : F vs s) : K vs s := h _ _ (I.kin hB) k
section
variable {env : Env} {x : Str} {pos : Pos} {p : Pos} {args : List Expr} {e : Expr} {rest : List Expr} {Q : Value → Shared → Prop} {f : Value}
theorem e_def {a : Addr} (I : St Z G B L m led s) (hB : Amb w B) (he : nsIn (KK w) mainGlobals x = some (some (.ref a))) (hk : keepIn (KK w) (.ref a) = true)
    (h : ∀ K : List Value → Shared → Prop, HkD w K (fun vs s₁ => wpAny (model prog w) A (call (.ref a) vs) Q E s₁) → wpAny (model prog w) A (spliced (backTo pos (starEach (e :: rest) env))) K E s)
    (hg : autoParam (env.globals = mainGlobals) tacR) (ho : autoParam (okN .globalImplicit env x = true) tacR) (hn : autoParam ((e :: rest).all noStar = true) tacR) : wpAny (model prog w) A (eval (.Call (.Name x p) (e :: rest) [] pos) env) Q E s :=
  e_call (ev_global I hB he (c_def I hB hk (h _ fun _ _ q1 q2 => ⟨q1, q2⟩) hn) hg ho)
theorem biTab_call {v : Value} : ∀ p ∈ biTab, (∃ id, p.2 = .builtin id) ∨ ∃ T, p.2 = .type T := by
  intro p hp
  simp only [biTab, List.mem_cons, List.not_mem_nil, or_false] at hp
  rcases hp with rfl | rfl | rfl | rfl | rfl | rfl | rfl | rfl <;> first | exact .inl ⟨_, rfl⟩ | exact .inr ⟨_, rfl⟩
theorem e_bcall {v : Value} (I : St Z G B L m led s) (hB : Amb w B) (hx : biTab.lookup x = some v)
    (h : ∀ K : List Value → Shared → Prop, Hk K (fun vs s₁ => wpAny (model prog w) A (call v vs) Q E s₁) → wpAny (model prog w) A (spliced (backTo pos (starEach (e :: rest) env))) K E s)
    (hg : autoParam (env.globals = mainGlobals) tacR) (hb : autoParam (env.builtins = builtinsNs) tacR) (ho : autoParam (okN .globalImplicit env x = true) tacR) (hn : autoParam ((e :: rest).all noStar = true) tacR) :
    wpAny (model prog w) A (eval (.Call (.Name x p) (e :: rest) [] pos) env) Q E s := by
  refine e_call (ev_bi I hB hx ?_ hg hb ho)
  have h := h _ Hk.self
  rcases biTab_call (v := v) _ (mem_lookup hx) with ⟨id, q⟩ | ⟨T, q⟩
  · have q : v = .builtin id := q
    subst q; exact c_builtin h hn
  · have q : v = .type T := q
    subst q; exact c_type h hn
theorem i_loc {v : Value} {Q : List Value → Shared → Prop} (I : St Z G B L m led s) (ho : okN .local env x = true) (hv : m x = some v) (h : wpAny (model prog w) A (spliced (backTo pos (starEach rest env))) (fun vs => Q (v :: vs)) E s) (hL : autoParam (env.locals = L) tacR) :
    wpAny (model prog w) A (spliced (backTo pos (starEach (.Name x p :: rest) env))) Q E s := i_cons (ev_local I ho hv h hL)
end
theorem r_neg {a : Int} {t : Tok} {Q : Value → Shared → Prop} (I : St Z G B L m led s) (h : ∀ t' s', St Z G B L m led s' → Q (.int (-a) t') s') : wpAny (model prog w) A (unaryOp .USub (.int a t)) Q E s := neg_int (h _ _ (I.tok _))
theorem tr_bool {b : Bool} {Q : Bool → Shared → Prop} (h : Q b s) : wpAny (model prog w) A (truthy (.bool b)) Q E s := wpAny_truthy_bool h
theorem if_split {b : Bool} {p q : Prop} (h1 : b = true → p) (h2 : b = false → q) : (b = true → p) ∧ (b = false → q) := ⟨h1, h2⟩
end Mine
end

section
open PySem PySem.Calls PySem.W PyProof.Rows
namespace Mine

variable {Z : Shared} {G B : Kn} {L : Addr} {m : Str → Option Value} {led : Led} {s : Shared} {w : World} {prog : Program} {A : Around} {E : Value → Shared → Prop} {d c : Addr} {P : Obj → Prop}

theorem IsT.at (h : IsT B a its) (I : St Z G B L m led s) : s.heap.IsTuple a its.toArray := let ⟨n, e⟩ := h; ⟨_, I.kn _ _ e, rfl, n, rfl⟩

theorem eqR_R (I : St Z G B L m led s) : EqR s (RR B) := by
  rintro A v v' r r' hu ⟨p, t, u, rfl, hp⟩ ⟨p', t', u', rfl, hp'⟩
  by_cases hpp : p = p'
  · subst hpp
    obtain ⟨n, e⟩ := hp
    obtain ⟨n', e'⟩ := hp'
    rw [e] at e'
    have hr : r = r' := by
      injection e' with e'
      injection e' with _ _ e' _
      injection e' with e' _
      injection e' with e'
      injection e' with e1 e2
      injection e2 with e2 _
      injection e1 with e1
      injection e2 with e2
      exact Prod.ext e1 e2
    rw [decide_eq_true hr]
    exact SeqAt.EqAt.same _
  · refine SeqAt.EqAt.of_refs hpp ?_
    have hh := SeqAt.RcAt.tuples (A := A) (s := s) (e := fun j => if j = 0 then decide (r.1 = r'.1) else decide (r.2 = r'.2)) (hp.at I) (hp'.at I) hu (fun j i1 i2 => ?_)
    · have e : ((List.range (min (([.bytes r.1 t, .bytes r.2 u] : List Value)).toArray.size ([.bytes r'.1 t', .bytes r'.2 u'] : List Value).toArray.size)).all (fun j => if j = 0 then decide (r.1 = r'.1) else decide (r.2 = r'.2)) &&
          ([.bytes r.1 t, .bytes r.2 u] : List Value).toArray.size == ([.bytes r'.1 t', .bytes r'.2 u'] : List Value).toArray.size) = decide (r = r') := by
        have e1 : (min (([.bytes r.1 t, .bytes r.2 u] : List Value)).toArray.size ([.bytes r'.1 t', .bytes r'.2 u'] : List Value).toArray.size) = 2 := rfl
        rw [e1]
        obtain ⟨a, b⟩ := r
        obtain ⟨a', b'⟩ := r'
        by_cases q1 : a = a' <;> by_cases q2 : b = b' <;> simp [List.range_succ, q1, q2]
      rw [e] at hh
      exact hh
    · have : j < 2 := i1
      match j, this with
      | 0, _ => exact eqAt_bytes _ _ _ _
      | 1, _ => exact eqAt_bytes _ _ _ _

section
variable {Q : Value → Shared → Prop} {env : Env} {pos : Pos} {elts : List Expr} {its : List Value} {v : Value} {value slice : Expr} {t u : Tok} {l : Addr}

theorem r_newListK {vs : List Value} (I : St Z G B L m led s) (hz : vs.length ≤ 1000) (h : ∀ a B' s', Le B B' → IsL B' a vs → St Z G B' L m led s' → Q (.ref a) s') : wpAny (model prog w) A (newList vs) Q E s :=
  wpAny_newList (h _ _ _ (le_know I.freshB) ⟨_, know_same, rfl, 0, rfl⟩ (I.pushKnow rfl)) (by rw [sizeLine_eq]; first | lia | omega)

theorem r_len (I : St Z G B L m led s) (hl : s.heap.IsList l its.toArray) (hz : its.length ≤ 1000) (h : ∀ t s', St Z G B L m led s' → Q (.int its.length t) s') : wpAny (model prog w) A (call (.builtin "len") [.ref l]) Q E s := by
  refine call_len_list hl (by simp; first | lia | omega) ?_
  rw [List.size_toArray]
  exact h _ _ (I.tok _)

theorem t_lget {k : Int} (hl : s.heap.IsList l its.toArray) (h0 : 0 ≤ k) (h1 : k < its.length) (hz : its.length ≤ 1000) (h : ∀ v, its[k.toNat]? = some v → Q v s) (hs : autoParam (plainSub slice = true) tacR) :
    wpAny (model prog w) A (subscriptTail value slice (.ref l) (.int k t)) Q E s := by
  have hk : k.toNat < its.length := by first | lia | omega
  refine tail_any hl.typeIs slot_list_getitem.lookup (wpAny_getItem_list hl h0 (by first | lia | omega) (x := its[k.toNat]) (by simp [hk]) (h _ (by simp [hk]))) (plain_sub hs)
theorem t_llast {k : Int} {x : Value} (hk : k = -1) (hl : s.heap.IsList l (its ++ [x]).toArray) (hz : its.length ≤ 1000) (h : Q x s) (hs : autoParam (plainSub slice = true) tacR) :
    wpAny (model prog w) A (subscriptTail value slice (.ref l) (.int k t)) Q E s := by
  subst hk
  refine tail_any hl.typeIs slot_list_getitem.lookup (wpAny_getItem_list_neg hl (by first | lia | omega) (by simp; first | lia | omega) (by first | lia | omega) (x := x) ?_ h) (plain_sub hs)
  have : (-1 + ((its ++ [x]).toArray.size : Int)).toNat = its.length := by simp; first | lia | omega
  rw [this]; simp
theorem t_tget {k : Int} {j : Nat} {x : Value} (I : St Z G B L m led s) (ht : IsT B l its) (hk : k = j) (hx : its[j]? = some x) (hz : its.length ≤ 1000) (h : Q x s) (hs : autoParam (plainSub slice = true) tacR) :
    wpAny (model prog w) A (subscriptTail value slice (.ref l) (.int k t)) Q E s := by
  subst hk
  have hj : j < its.length := (List.getElem?_eq_some_iff.mp hx).1
  obtain ⟨n, e⟩ := ht
  refine item_tupleT (j := j) ⟨_, I.kn _ _ e, rfl, n, rfl⟩ (by first | lia | omega) (by first | lia | omega) ?_ hx h (plain_sub hs)
  simp [seqIndex?]; first | lia | omega

def cutL {α : Type} (l : List α) (lo hi : Option Int) : List α := (l.drop (lo.elim 0 (clipAt l.length))).take (hi.elim l.length (clipAt l.length) - lo.elim 0 (clipAt l.length))
theorem slicePick_cut (its : List Value) (lo hi : Option Int) : slicePick its.toArray lo hi none = (cutL its lo hi).toArray := by
  unfold slicePick cutL
  rw [sliceBounds_plain]
  simp only [sliceRange_one, pick_run, List.size_toArray]
theorem e_slice {lower upper : Option Expr} {p : Pos} (h : ∀ K : Value → Value → Value → Shared → Prop, (∀ {l its lo hi led Z G B L m vl vu s₃}, s₃.heap.IsList l its.toArray → its.length ≤ 1000 → IsPart vl lo → IsPart vu hi → St Z G B L m led s₃ → (∀ a s', St Z G B L m ((a, LP (cutL its lo hi)) :: led) s' → Q (.ref a) s') → K (.ref l) vl vu s₃) →
      wpAny (model prog w) A (eval value env) (fun o s₁ => wpAny (model prog w) A (evalPart lower env) (fun vl s₂ => wpAny (model prog w) A (evalPart upper env) (K o vl) E s₂) E s₁) E s) :
    wpAny (model prog w) A (eval (.Subscript value (.Slice lower upper none p) pos) env) Q E s := by
  refine Subscript_ (wpAny_mono (h _ ?_) (fun o s₁ h₁ => wpAny_Slice (wpAny_mono h₁ (fun vl s₂ h₂ => wpAny_mono h₂ (fun vu s₃ h₃ => wpAny_evalPart_none h₃) fun _ _ x => x) fun _ _ x => x)) fun _ _ x => x)
  intro l its lo hi led Z G B L m vl vu s₃ hl hz pl pu I k
  have I' := (I.push { cls := .type "slice", data := .fields #[vl, vu, .none] }).pushOwn (o := { cls := .type "list", data := .seq (slicePick its.toArray lo hi none) }) (P := LP (cutL its lo hi)) rfl ⟨0, by rw [slicePick_cut]⟩
  have hl' := hl.push { cls := .type "slice", data := .fields #[vl, vu, .none] }
  exact tail_any (Heap.IsList.typeIs (s := { s₃ with heap := s₃.heap.push { cls := .type "slice", data := .fields #[vl, vu, .none] } }) hl') slot_list_getitem.lookup
    (wpAny_getItem_list_slice hl' (Heap.IsSliceOf.new ..) pl pu .none (fun e => nomatch e) (k _ _ I') (by rw [sizeLine_eq, List.size_toArray]; first | lia | omega)) (by rfl)
theorem ep_none (h : Q .none s) : wpAny (model prog w) A (evalPart none env) Q E s := wpAny_evalPart_none h
theorem ep_some {e : Expr} (h : wpAny (model prog w) A (eval e env) Q E s) : wpAny (model prog w) A (evalPart (some e) env) Q E s := wpAny_evalPart_some h

def lastB (b : Bt) : Bt := KBy.picked b (some (-1)) none
def firstB (b : Bt) : Bt := KBy.picked b none (some 1)
theorem t_bslice {b : Bt} {vl vu : Value} {lo hi : Option Int} (I : St Z G B L m led s) (hl : IsPart vl lo) (hu : IsPart vu hi) (hz : b.size ≤ 100) (h : ∀ t s', St Z G B L m led s' → Q (.bytes (KBy.picked b lo hi) t) s')
    (hs : autoParam (subscripted slice false (.bytes b t) (.ref s.heap.objs.size) = operate [.ref s.heap.objs.size, .bytes b t] (getItem (.bytes b t) (.ref s.heap.objs.size))) tacR)
    (ht : ∀ r, letTemporaryGo value (.bytes b t) r = pure () := by intro _; with_unfolding_all rfl) :
    wpAny (model prog w) A (subscriptTail value slice (.bytes b t) (.ref s.heap.objs.size)) Q E { s with heap := s.heap.push { cls := .type "slice", data := .fields #[vl, vu, .none] } } :=
  tail_of_ItemOn ⟨"bytes", _, FB.slot_bytes_getitem.lookup, typeIs_bytes _ _ _, getItem_meets (typeIs_bytes _ _ _) (by decide) FB.slot_bytes_getitem FB.entry_bytes_getitem (FB.args_bytes_getitem_2 _ _) (KBc.meets_slice2 b t _ hl hu)
    ⟨Heap.IsSliceOf.new _ _ _ _, Nat.le_trans (KBc.size_picked_le b lo hi) (by rw [sizeLine_eq]; first | lia | omega), fun t' k => h _ _ ((I.push _).tok k)⟩⟩ hs ht
theorem e_bslice {lower upper : Option Expr} {p : Pos} (h : ∀ K : Value → Value → Value → Shared → Prop, (∀ {b t lo hi led Z G B L m vl vu s₃}, b.size ≤ 100 → IsPart vl lo → IsPart vu hi → St Z G B L m led s₃ → (∀ t' s', St Z G B L m led s' → Q (.bytes (KBy.picked b lo hi) t') s') → K (.bytes b t) vl vu s₃) →
      wpAny (model prog w) A (eval value env) (fun o s₁ => wpAny (model prog w) A (evalPart lower env) (fun vl s₂ => wpAny (model prog w) A (evalPart upper env) (K o vl) E s₂) E s₁) E s) :
    wpAny (model prog w) A (eval (.Subscript value (.Slice lower upper none p) pos) env) Q E s := by
  refine Subscript_ (wpAny_mono (h _ ?_) (fun o s₁ h₁ => wpAny_Slice (wpAny_mono h₁ (fun vl s₂ h₂ => wpAny_mono h₂ (fun vu s₃ h₃ => wpAny_evalPart_none h₃) fun _ _ x => x) fun _ _ x => x)) fun _ _ x => x)
  intro b t lo hi led Z G B L m vl vu s₃ hz pl pu I k
  exact t_bslice I pl pu hz k (by rfl) (fun r => by cases value <;> rfl)
theorem b_eq {b c : Bt} (h : Q (.bool (decide (b = c))) s) : wpAny (model prog w) A (compareOp .Eq (.bytes b t) (.bytes c u)) Q E s := by
  refine PySem.W.eq_bytes ?_
  have : (b.toList == c.toList) = decide (b = c) := by
    by_cases q : b = c
    · subst q; simp
    · rw [decide_eq_false q]; exact beq_eq_false_iff_ne.mpr fun z => q (Array.toList_inj.mp z)
  rw [this]; exact h
theorem b_ne {b c : Bt} (h : Q (.bool (!decide (b = c))) s) : wpAny (model prog w) A (compareOp .NotEq (.bytes b t) (.bytes c u)) Q E s := by
  refine PySem.W.ne_bytes ?_
  have : (b.toList != c.toList) = !decide (b = c) := by
    by_cases q : b = c
    · subst q; simp
    · rw [decide_eq_false q]; simp only [bne, Bool.not_false]; rw [beq_eq_false_iff_ne.mpr fun z => q (Array.toList_inj.mp z)]; rfl
  rw [this]; exact h
theorem b_in2 {x b c : Bt} {t u r : Tok} (I : St Z G B L m led s) (ht : IsT B l [.bytes b t, .bytes c u]) (h : Q (.bool (decide (x = b) || decide (x = c))) s) : wpAny (model prog w) A (compareOp .In (.bytes x r) (.ref l)) Q E s := by
  refine SeqAt.in_tupleAt (fun y => match y with | .bytes z _ => decide (z = x) | _ => false) (ht.at I) (fun y hy => ?_) ?_
  · have : y = .bytes b t ∨ y = .bytes c u := by simpa using hy
    rcases this with rfl | rfl
    · exact eqAt_bytes _ _ _ _
    · exact eqAt_bytes _ _ _ _
  · have e : ([.bytes b t, .bytes c u] : List Value).toArray.any (fun y => match y with | .bytes z _ => decide (z = x) | _ => false) = (decide (x = b) || decide (x = c)) := by
      simp [eq_comm]
    rw [e]; exact h

theorem r_is_none {v : Value} (h : Q (.bool (v == .none)) s) : wpAny (model prog w) A (compareOp .Is v .none) Q E s := is_none h
theorem r_isnot_none {v : Value} (h : Q (.bool (!(v == .none))) s) : wpAny (model prog w) A (compareOp .IsNot v .none) Q E s := isNot_none h

theorem r_addL {b : Addr} {its2 : List Value} (I : St Z G B L m led s) (hl : s.heap.IsList l its.toArray) (hb : s.heap.IsList b its2.toArray) (hz : its.length + its2.length ≤ 1000) (h : ∀ a s', St Z G B L m ((a, LP (its ++ its2)) :: led) s' → Q (.ref a) s') :
    wpAny (model prog w) A (binaryOp .Add (.ref l) (.ref b)) Q E s := by
  obtain ⟨⟨cls, dd, data, sl⟩, ho, hc, n, hd⟩ := id hl
  obtain ⟨⟨cls2, dd2, data2, sl2⟩, ho2, hc2, n2, hd2⟩ := id hb
  simp only at hc hd hc2 hd2
  subst hc hd hc2 hd2
  refine concat_meets ⟨_, ho, rfl⟩ ⟨_, ho2, rfl⟩ noFill_list_add seq_list_add PySem.F.slot_list_add PySem.F.entry_list_add (PySem.F.args_list_add_2 _ _) (list_addW l b its.toArray its2.toArray n n2 dd dd2 sl sl2 (by rw [sizeLine_eq, List.size_toArray, List.size_toArray]; first | lia | omega)) ⟨ho, ho2, ?_⟩
  exact h _ _ (I.pushOwn rfl ⟨0, by simp [PySem.W.listOf]⟩)

theorem r_extend {b : Addr} {its2 : List Value} (I : St Z G B L m ((d, LP its) :: (b, LP its2) :: led) s) (hz : its.length + its2.length ≤ 1000) (h : ∀ s', St Z G B L m ((d, LP (its ++ its2)) :: (b, LP its2) :: led) s' → Q .none s') :
    wpAny (model prog w) A (call (.builtin "list.extend") [.ref d, .ref b]) Q E s := by
  obtain ⟨o, e, n, rfl⟩ := I.head
  obtain ⟨o2, e2, n2, rfl⟩ := I.swap.head
  have hsz' : its.toArray.size + its2.toArray.size ≤ sizeLine := by rw [sizeLine_eq, List.size_toArray, List.size_toArray]; first | lia | omega
  refine call_meets PySem.F.slot_list_extend ⟨_, e, rfl⟩ PySem.F.entry_list_extend (PySem.F.args_list_extend_2 _ _) (AutoSeq1.list_extend_list_list_0 d its.toArray n b its2.toArray n2 (extend_door hsz') (Nat.le_trans (Nat.le_add_right _ _) hsz')) ⟨e, e2, ?_⟩
  have q : its.toArray ++ its2.toArray = (its ++ its2).toArray := by simp
  have ho' : (s.heap.update d (Obj.mapSeq fun x => x ++ its2.toArray)).get? d = some { cls := .type "list", data := .seq (its ++ its2).toArray (if (its.toArray ++ its2.toArray).size == its.toArray.size then n else n + 1) } := by
    rw [Heap.get?_update_self _ e (by rw [mapSeq_app]; rfl), mapSeq_app, q]
  exact h _ (I.chg (t := s.toks) (Heap.SameBut.update ..) ho' ⟨_, rfl⟩)
theorem m_extend {o e : Expr} {apos : Pos} (h : ∀ K : Value → Shared → Prop, (∀ {Z G B L m led d its s₁}, St Z G B L m ((d, LP its) :: led) s₁ → wpAny (model prog w) A (eval e env) (fun v s₂ => wpAny (model prog w) A (call (.builtin "list.extend") [.ref d, v]) Q E s₂) E s₁ → K (.ref d) s₁) → wpAny (model prog w) A (eval o env) K E s)
    (hbase : autoParam (attributeBase o "extend" env (eval o env) = eval o env) tacR) (hse : autoParam (starEach [e] env = [(false, eval e env)]) tacR) (hline : autoParam ((apos.endLine == pos.line) = true) tacR) : wpAny (model prog w) A (eval (.Call (.Attribute o "extend" apos) [e] [] pos) env) Q E s := by
  have h := h (fun ov s₁ => ∃ d ob, ov = .ref d ∧ s₁.heap.get? d = some ob ∧ ob.cls = .type "list" ∧ ob.dict = none ∧ wpAny (model prog w) A (eval e env) (fun v s₂ => wpAny (model prog w) A (call (.builtin "list.extend") [.ref d, v]) Q E s₂) E s₁) (fun {_ _ _ _ _ _ d _ _} I q => let ⟨ob, q1, q2, q3⟩ := I.ownLP; ⟨d, ob, rfl, q1, q2, q3, q⟩)
  refine wpAny_Call_method_late hbase (by rw [hse]; rfl) hline rfl (wpAny_mono h (fun ov s₁ h₁ => ?_) fun _ _ x => x)
  obtain ⟨d, ob, rfl, e', c, dn, hc⟩ := h₁
  refine ⟨"list", "list.extend", PySem.F.plainAttrs_list, PySem.F.slot_list_extend, PySem.F.type_list_extend, ⟨ob, e', c⟩, fun a q => by cases q; exact ⟨ob, e', dn⟩, ?_⟩
  exact callWith_method1 (env := env) (wpAny_items_cons (wpAny_mono hc (fun v s₂ h₂ => wpAny_items_nil h₂) fun _ _ x => x) (by rw [hse]; rfl)) (by rw [hse]; rfl)
end
end Mine
end

section
open PySem PySem.Calls PySem.W PyProof.Rows
namespace Mine

variable {Z : Shared} {G B : Kn} {L : Addr} {m : Str → Option Value} {led : Led} {s : Shared} {w : World} {prog : Program} {A : Around} {E : Value → Shared → Prop} {d c : Addr} {P : Obj → Prop}

theorem St.hold (I : St Z G B L m ((d, P) :: led) s) : ∃ o, P o ∧ s.heap.get? d = some o ∧ G d = none ∧ d ≠ L ∧ B d = none ∧ St Z (know G d o) B L m led s := by
  obtain ⟨a1, a2, a3, a4, a5, a6, a7, a8, a9, b1, b2, b3⟩ := I
  obtain ⟨o, e, q⟩ := a8 (d, P) (.head _)
  obtain ⟨n1, n2⟩ := List.nodup_cons.mp b3
  refine ⟨o, q, e, b2 (d, P) (.head _), a9 (d, P) (.head _), b1 (d, P) (.head _), a1, a2, a3, fun a x z => ?_, fun a x z => ?_, a6, ?_, fun p hp => a8 p (.tail _ hp), fun p hp => a9 p (.tail _ hp), fun p hp => b1 p (.tail _ hp), fun p hp => ?_, n2⟩
  · unfold know at z
    split at z
    · rename_i r; subst r; cases z; exact e
    · exact a4 a x z
  · unfold know at z
    split at z
    · rename_i r; subst r; exact b1 (a, P) (.head _)
    · exact a5 a x z
  · unfold know
    rw [if_neg (fun r => a9 (d, P) (.head _) r.symm)]; exact a7
  · unfold know
    rw [if_neg (fun r => n1 (List.mem_map.mpr ⟨p, hp, r⟩))]; exact b2 p (.tail _ hp)
theorem St.unhold {o : Obj} (I : St Z (know G d o) B L m led s) (hG : G d = none) (hp : P o) : St Z G B L m ((d, P) :: led) s := by
  obtain ⟨a1, a2, a3, a4, a5, a6, a7, a8, a9, b1, b2, b3⟩ := I
  have lk : ∀ a x, G a = some x → know G d o a = some x := fun a x e => by
    unfold know
    rw [if_neg (fun r => by subst r; rw [hG] at e; cases e)]; exact e
  have nd : ∀ a, know G d o a = none → a ≠ d ∧ G a = none := fun a e => by
    unfold know at e
    split at e
    · cases e
    · exact ⟨by assumption, e⟩
  refine ⟨a1, a2, a3, fun a x e => a4 a x (lk a x e), fun a x e => a5 a x (lk a x e), a6, (nd _ a7).2, fun p hp' => ?_, fun p hp' => ?_, fun p hp' => ?_, fun p hp' => ?_, ?_⟩
  · rcases List.mem_cons.mp hp' with rfl | hm
    · exact ⟨o, a4 _ _ know_same, hp⟩
    · exact a8 p hm
  · rcases List.mem_cons.mp hp' with rfl | hm
    · exact Ne.symm (nd _ a7).1
    · exact a9 p hm
  · rcases List.mem_cons.mp hp' with rfl | hm
    · exact a5 _ _ know_same
    · exact b1 p hm
  · rcases List.mem_cons.mp hp' with rfl | hm
    · exact hG
    · exact (nd _ (b2 p hm)).2
  · refine List.nodup_cons.mpr ⟨fun hm => ?_, b3⟩
    obtain ⟨p, hp', e⟩ := List.mem_map.mp hm
    exact (nd _ (b2 p hp')).1 e
theorem St.unholdD {o : Obj} (I : St Z (know G d o) B L m led s) (hG : G d = none) : St Z G B L m led s := (I.unhold hG (P := fun _ => True) trivial).drop

theorem St.chgE {P P' : Obj → Prop} (I : St Z G B L m ((d, P) :: led) s) {h' : Heap} {t : Nat} {o' : Obj} (hs : ∀ b o, b ≠ d → s.heap.get? b = some o → h'.get? b = some o) (he : h'.get? d = some o') (hp : P' o') : St Z G B L m ((d, P') :: led) { s with heap := h', toks := t } := by
  obtain ⟨⟨h, tk, rfl⟩, a2, a3, a4, a5, a6, a7, a8, a9, b1, b2, b3⟩ := I
  have dL : d ≠ L := a9 (d, P) (.head _)
  have dB : B d = none := b1 (d, P) (.head _)
  have dG : G d = none := b2 (d, P) (.head _)
  obtain ⟨n1, n2⟩ := List.nodup_cons.mp b3
  refine ⟨⟨h', t, rfl⟩, a2.extBut hs (Ne.symm dL), fun a o e => hs a o (fun q => by subst q; rw [dB] at e; cases e) (a3 a o e), fun a o e => hs a o (fun q => by subst q; rw [dG] at e; cases e) (a4 a o e), a5, a6, a7, fun p hp' => ?_, fun p hp' => ?_, fun p hp' => ?_, fun p hp' => ?_, b3⟩
  · rcases List.mem_cons.mp hp' with rfl | hm
    · exact ⟨o', he, hp⟩
    · obtain ⟨o, e, q⟩ := a8 p (.tail _ hm)
      exact ⟨o, hs _ _ (fun z => n1 (List.mem_map.mpr ⟨p, hm, z⟩)) e, q⟩
  · rcases List.mem_cons.mp hp' with rfl | hm
    · exact dL
    · exact a9 p (.tail _ hm)
  · rcases List.mem_cons.mp hp' with rfl | hm
    · exact dB
    · exact b1 p (.tail _ hm)
  · rcases List.mem_cons.mp hp' with rfl | hm
    · exact dG
    · exact b2 p (.tail _ hm)
theorem St.lost (I : St Z G B L m ((d, P) :: led) s) {h' : Heap} {t : Nat} (hs : ∀ b o, b ≠ d → s.heap.get? b = some o → h'.get? b = some o) : St Z G B L m led { s with heap := h', toks := t } := by
  obtain ⟨⟨h, tk, rfl⟩, a2, a3, a4, a5, a6, a7, a8, a9, b1, b2, b3⟩ := I
  have dL : d ≠ L := a9 (d, P) (.head _)
  have dB : B d = none := b1 (d, P) (.head _)
  have dG : G d = none := b2 (d, P) (.head _)
  obtain ⟨n1, n2⟩ := List.nodup_cons.mp b3
  refine ⟨⟨h', t, rfl⟩, a2.extBut hs (Ne.symm dL), fun a o e => hs a o (fun q => by subst q; rw [dB] at e; cases e) (a3 a o e), fun a o e => hs a o (fun q => by subst q; rw [dG] at e; cases e) (a4 a o e), a5, a6, a7, fun p hp' => ?_, fun p hp' => a9 p (.tail _ hp'), fun p hp' => b1 p (.tail _ hp'), fun p hp' => b2 p (.tail _ hp'), n2⟩
  obtain ⟨o, e, q⟩ := a8 p (.tail _ hp')
  exact ⟨o, hs _ _ (fun z => n1 (List.mem_map.mpr ⟨p, hp', z⟩)) e, q⟩
theorem St.other (I : St Z G B L m led s) {C : Addr} {h' : Heap} (hs : Heap.SameBut C s.heap h') (hL : C ≠ L) (hB : B C = none) (hG : G C = none) (hl : ∀ p ∈ led, p.1 ≠ C) : St Z G B L m led { s with heap := h' } := by
  obtain ⟨⟨h, tk, rfl⟩, a2, a3, a4, a5, a6, a7, a8, a9, b1, b2, b3⟩ := I
  refine ⟨⟨h', tk, rfl⟩, a2.sameBut hs (Ne.symm hL), fun a o e => (hs.2 a (fun q => by subst q; rw [hB] at e; cases e)).trans (a3 a o e), fun a o e => (hs.2 a (fun q => by subst q; rw [hG] at e; cases e)).trans (a4 a o e), a5, a6, a7, fun p hp => ?_, a9, b1, b2, b3⟩
  obtain ⟨o, e, q⟩ := a8 p hp
  exact ⟨o, (hs.2 _ (hl p hp)).trans e, q⟩

abbrev anyO : Obj → Prop := fun _ => True

structure Itr (prog : Program) (w : World) (A : Around) (I : Addr) (B : Kn) (n : Nat) (P : Nat → Value → Prop) (S : Nat → Heap → Prop) : Prop where
  item : ∀ i (s : Shared) (Q : Option Value → Shared → Prop) (E : Value → Shared → Prop), i < n → S i s.heap →
    (∀ v h' tk, P i v → S (i + 1) h' → (∀ b o, b ≠ I → s.heap.get? b = some o → h'.get? b = some o) → Q (some v) { s with heap := h', toks := tk }) → wpAny (model prog w) A (pyNext (.ref I)) Q E s
  done : ∀ (s : Shared) (Q : Option Value → Shared → Prop) (E : Value → Shared → Prop), S n s.heap → (∀ h' tk, (∀ b o, b ≠ I → s.heap.get? b = some o → h'.get? b = some o) → Q none { s with heap := h', toks := tk }) → wpAny (model prog w) A (pyNext (.ref I)) Q E s
  self : ∀ i (s : Shared) (Q : Value → Shared → Prop) (E : Value → Shared → Prop), S i s.heap → Q (.ref I) s → wpAny (model prog w) A (pyIter (.ref I)) Q E s
  obj : ∀ i h, S i h → ∃ o, h.get? I = some o
  frame : ∀ i h h', S i h → (∀ o, h.get? I = some o → h'.get? I = some o) → (∀ a o, B a = some o → h'.get? a = some o) → S i h'
  go : ∀ i target v (s : Shared) (Q : Unit → Shared → Prop) (E : Value → Shared → Prop), S i s.heap → Q () s → wpAny (model prog w) A (letOwnedTupleGo target (.ref I) v) Q E s

theorem go_list {I ax : Addr} {i : Nat} {target : Expr} {v : Value} {Q : Unit → Shared → Prop} (hit : s.heap.IsListIter I ax i) (hQ : Q () s) : wpAny (model prog w) A (letOwnedTupleGo target (.ref I) v) Q E s := by
  obtain ⟨o, ho, hc, hd⟩ := hit
  cases target <;> first | exact wpAny_pure hQ | skip
  all_goals (
    cases v <;> first | exact wpAny_pure hQ | skip
    unfold letOwnedTupleGo
    refine wpAny_bind (wpAny_load ho ?_)
    rw [hc, hd]
    dsimp only
    rw [if_neg (by
      intro h
      rw [show (["enumerate", "zip", "dict_itemiterator", "dict_reverseitemiterator", "odict_iterator", "itertools.zip_longest", "itertools.pairwise"].contains "list_iterator") = false from by decide, Bool.false_and] at h
      cases h)]
    exact wpAny_pure hQ)

theorem Itr.list {I ax : Addr} {its : List Value} (hh : A.handled = none) (hl : IsL B ax its) (hne : ax ≠ I) : Itr prog w A I B its.length (fun i v => its[i]? = some v) (fun i h => h.IsListIter I ax i ∧ h.IsList ax its.toArray) where
  item := fun i s Q E hi st hQ => (Walks.list (prog := prog) (w := w) hh I ax hne its.toArray).item i s Q E (by simpa using hi) st fun v h' tk p st' hk => hQ v h' tk (by simpa using p) st' fun b o hb e => hk b o (by simpa using hb) e
  done := fun s Q E st hQ => (Walks.list (prog := prog) (w := w) hh I ax hne its.toArray).done s Q E (by simpa using st) fun h' tk hk => hQ h' tk fun b o hb e => hk b o (by simpa using hb) e
  self := fun i s Q E st hQ => (Walks.list (prog := prog) (w := w) hh I ax hne its.toArray).self i s Q E st hQ
  obj := fun i h st => let ⟨o, e, _⟩ := st.1; ⟨o, e⟩
  frame := fun i h h' st h1 h2 => ⟨st.1.at h1, let ⟨o, e, c, n, q⟩ := hl; ⟨o, h2 _ _ e, c, n, q⟩⟩
  go := fun i target v s Q E st hQ => go_list st.1 hQ

theorem Itr.range {I : Addr} {a : Int} {n : Nat} (hh : A.handled = none) : Itr prog w A I B n (fun i v => ∃ t, v = .int (a + i) t) (fun i h => IsRangeIter h I (a + i) ((n : Int) - i) 1) where
  item := fun i s Q E hi st hQ => (Walks.range (prog := prog) (w := w) hh I a 1 n).item i s Q E hi (by simpa using st) fun v h' tk p st' hk => hQ v h' tk (by simpa using p) (by simpa using st') fun b o hb e => hk b o (by simpa using hb) e
  done := fun s Q E st hQ => (Walks.range (prog := prog) (w := w) hh I a 1 n).done s Q E (by simpa using st) fun h' tk hk => hQ h' tk fun b o hb e => hk b o (by simpa using hb) e
  self := fun i s Q E st hQ => (Walks.range (prog := prog) (w := w) hh I a 1 n).self i s Q E (by simpa using st) hQ
  obj := fun i h st => ⟨_, st⟩
  frame := fun i h h' st h1 h2 => h1 _ st
  go := fun i target v s Q E st hQ => by
    cases target <;> first | exact wpAny_pure hQ | skip
    all_goals (
      cases v <;> first | exact wpAny_pure hQ | skip
      unfold letOwnedTupleGo
      refine wpAny_bind (wpAny_load st ?_)
      dsimp only
      rw [if_neg (by
        intro h
        rw [show (["enumerate", "zip", "dict_itemiterator", "dict_reverseitemiterator", "odict_iterator", "itertools.zip_longest", "itertools.pairwise"].contains "range_iterator") = false from by decide, Bool.false_and] at h
        cases h)]
      exact wpAny_pure hQ)
end Mine
end

section
open PySem PySem.Calls PySem.W PyProof.Rows
namespace Mine

variable {Z : Shared} {G B : Kn} {L : Addr} {m : Str → Option Value} {led : Led} {s : Shared} {w : World} {prog : Program} {A : Around} {E : Value → Shared → Prop} {d c : Addr} {P : Obj → Prop}

theorem loop_core {env : Env} {target : Expr} {body : List Stmt} {I : Addr} {n : Nat} {Pv : Nat → Value → Prop} {S : Nat → Heap → Prop} {R : Result → Shared → Prop} (W : Itr prog w A I B n Pv S)
    (J : Nat → Kn → (Str → Option Value) → Led → Prop) (I0 : St Z G B L m ((I, anyO) :: led) s) (S0 : S 0 s.heap) (j0 : J 0 B m led)
    (turn : ∀ i v B' m' led' G' s₂ E' (P : Flow → Shared → Prop), (∀ s₄ B'' m'' led'', Le B' B'' → J (i + 1) B'' m'' led'' → St Z G' B'' L m'' led'' s₄ → P .next s₄) →
        (∀ v s₄ B'' m'' led'', Le B' B'' → St Z G' B'' L m'' led'' s₄ → (St Z G B'' L m'' led'' s₄ → R (.ok (.ret v)) s₄) → P (.ret v) s₄) → i < n → Pv i v → Le B B' → J i B' m' led' → St Z G' B' L m' led' s₂ →
      wpAny (model prog w) A (assign target env v) (fun _ s₃ => wpAny (model prog w) A (execs body env) P E' s₃) E' s₂)
    (fin : ∀ B' m' led' s₂, Le B B' → J n B' m' led' → St Z G B' L m' led' s₂ → R (.ok .next) s₂) : codeAny (model prog w) A (.forLoop target (.ref I) body [] env) R s := by
  refine codeAny_forLoop_any (fun k s' => ∃ i B' m' led', k = n + 1 - i ∧ i ≤ n ∧ Le B B' ∧ J i B' m' led' ∧ St Z G B' L m' ((I, anyO) :: led') s' ∧ S i s'.heap) ?_ (n + 1) ⟨0, B, m, led, rfl, Nat.zero_le _, Le.rfl, j0, I0, S0⟩
  intro k s' hk0
  refine opq fun X hX => ?_
  obtain ⟨i, B', m', led', rfl, hi, hle, hj, I', S'⟩ := hk0
  refine hX ?_
  clear hX
  by_cases hlt : i < n
  · refine W.item i _ _ _ hlt S' fun v h₁ tk₁ hp S₁ hk₁ => ?_
    obtain ⟨o₁, ho₁⟩ := W.obj _ _ S₁
    have I₁ : St Z G B' L m' ((I, anyO) :: led') { s' with heap := h₁, toks := tk₁ } := I'.chgE hk₁ ho₁ trivial
    refine W.go _ _ _ _ _ _ S₁ ?_
    refine opq fun X hX => ?_
    obtain ⟨o, _, ho, hG, _, _, I₂⟩ := I₁.hold
    refine hX ?_
    clear hX
    refine wpAny_mono (turn i v B' m' led' _ _ _ (fun f s₄ => match f with
        | .next | .cont => ∃ B'' m'' led'', Le B' B'' ∧ J (i + 1) B'' m'' led'' ∧ St Z (know G I o) B'' L m'' led'' s₄
        | .brk => False
        | .ret v => ∃ B'' m'' led'', Le B' B'' ∧ St Z (know G I o) B'' L m'' led'' s₄ ∧ (St Z G B'' L m'' led'' s₄ → R (.ok (.ret v)) s₄)) (fun s₄ B'' m'' led'' q1 q2 q3 => ⟨B'', m'', led'', q1, q2, q3⟩) (fun v s₄ B'' m'' led'' q1 q2 q3 => ⟨B'', m'', led'', q1, q2, q3⟩) hlt hp hle hj I₂) (fun _ s₃ h₃ => wpAny_mono h₃ (fun f s₄ h₄ => ?_) fun _ _ e => e) fun _ _ e => e
    have nx : (∃ B'' m'' led'', Le B' B'' ∧ J (i + 1) B'' m'' led'' ∧ St Z (know G I o) B'' L m'' led'' s₄) → ∃ k', k' < n + 1 - i ∧ ∃ i' B' m' led', k' = n + 1 - i' ∧ i' ≤ n ∧ Le B B' ∧ J i' B' m' led' ∧ St Z G B' L m' ((I, anyO) :: led') s₄ ∧ S i' s₄.heap := by
      rintro ⟨B'', m'', led'', l2, j2, I₄⟩
      refine ⟨n + 1 - (i + 1), by first | lia | omega, i + 1, B'', m'', led'', rfl, hlt, hle.trans l2, j2, I₄.unhold hG trivial, W.frame _ _ _ S₁ (fun o' e => ?_) fun a o' e => I₄.kn _ _ (l2 _ _ (hle _ _ e))⟩
      have e : h₁.get? I = some o' := e
      have : (some o : Option Obj) = some o' := ho.symm.trans e
      cases this
      exact I₄.gh _ _ know_same
    cases f with
    | next => exact nx h₄
    | cont => exact nx h₄
    | brk => exact h₄.elim
    | ret v =>
      obtain ⟨B'', m'', led'', l2, I₄, r⟩ := h₄
      exact r (I₄.unholdD hG)
  · have hin : i = n := by first | lia | omega
    subst hin
    refine W.done _ _ _ S' fun h₁ tk₁ hk₁ => wpAny_execs_nil ?_
    exact fin B' m' led' _ hle hj (I'.lost hk₁)

def HkF (K : Result → Shared → Prop) (F : Shared → Prop) : Prop := ∀ s', F s' → K (.ok .next) s'
theorem HkF.go {K : Result → Shared → Prop} {F : Shared → Prop} (h : HkF K F) (k : F s) : K (.ok .next) s := h _ k
def HkR (K : Result → Shared → Prop) (F : Flow → Shared → Prop) : Prop := ∀ v s', F (.ret v) s' → K (.ok (.ret v)) s'
theorem HkR.go {K : Result → Shared → Prop} {F : Flow → Shared → Prop} {v : Value} (h : HkR K F) (k : F (.ret v) s) : K (.ok (.ret v)) s := h _ _ k
theorem x_for {env : Env} {Q : Flow → Shared → Prop} {target iter : Expr} {body rest : List Stmt} {pos : Pos}
    (h : ∀ K : Result → Shared → Prop, HkF K (fun s' => wpAny (model prog w) A (execs rest env) Q E s') → HkR K Q → wpAny (model prog w) A (eval iter env) (fun x s₁ => wpAny (model prog w) A (pyIter x) (fun it s₂ => codeAny (model prog w) A (.forLoop target it body [] env) K s₂) E s₁) E s)
    (hs : ∀ x, foldedSetIterable iter env x = pure x := by intro _; with_unfolding_all rfl) :
    wpAny (model prog w) A (execs (.For target iter body [] pos :: rest) env) Q E s := by
  have h := h (fun r s' => match r with | .ok .next => wpAny (model prog w) A (execs rest env) Q E s' | .ok f => Q f s' | .error e => cameBackBy (model prog w) A env E e s') (fun _ q => q) (fun _ _ q => q)
  refine wpAny_execs_cons (wpAny_For (wpAny_mono h (fun x s₁ h₁ => wpAny_mono h₁ (fun it s₂ h₂ => codeAny_mono h₂ fun r s' hr => ?_) fun _ _ e => e) fun _ _ e => e) hs)
  rcases r with e | (_ | _ | _ | _) <;> exact hr

def ItV (its : List Value) (i : Nat) (v : Value) : Prop := its[i]? = some v
def ItS (a l : Addr) (its : List Value) (i : Nat) (h : Heap) : Prop := h.IsListIter a l i ∧ h.IsList l its.toArray
def RgV (a : Int) (k : Nat) (v : Value) : Prop := ∃ t, v = .int (a + k) t
def RgV1 (k : Nat) (v : Value) : Prop := ∃ t, v = .int k t
def RgS (i : Addr) (a : Int) (n : Nat) (k : Nat) (h : Heap) : Prop := IsRangeIter h i (a + k) ((n : Int) - k) 1
theorem pi_list {l : Addr} {its : List Value} {Q : Value → Shared → Prop} (hh : A.handled = none) (I : St Z G B L m led s) (hl : IsL B l its)
    (h : ∀ a s', Itr prog w A a B its.length (ItV its) (ItS a l its) → St Z G B L m ((a, anyO) :: led) s' → ItS a l its 0 s'.heap → Q (.ref a) s') :
    wpAny (model prog w) A (pyIter (.ref l)) Q E s := by
  have hl' := hl.at I
  have hlt : l ≠ s.heap.objs.size := by obtain ⟨o, e, _⟩ := hl'; exact Nat.ne_of_lt (Heap.lt_size e)
  exact wpAny_pyIter_list hl' (h _ _ (Itr.list hh hl hlt) (I.pushOwn rfl trivial) ⟨⟨_, Heap.get?_push_size _ rfl, rfl, rfl⟩, hl'.push _⟩)

theorem pi_range {a b : Int} {t u : Tok} {Q : Value → Shared → Prop} (hh : A.handled = none) (I : St Z G B L m led s) (ha : -(2 ^ 40) ≤ a ∧ a ≤ 2 ^ 40) (hb : -(2 ^ 40) ≤ b ∧ b ≤ 2 ^ 40)
    (h : ∀ i s', Itr prog w A i B (b - a).toNat (RgV a) (RgS i a (b - a).toNat) → St Z G B L m ((i, anyO) :: led) s' → RgS i a (b - a).toNat 0 s'.heap → Q (.ref i) s') :
    wpAny (model prog w) A (call (.type "range") [.int a t, .int b u]) (fun x s₁ => wpAny (model prog w) A (pyIter x) Q E s₁) E s := by
  refine call_range_2 (wpAny_pyIter_range (IsRange.new ..) (small_one (by first | lia | omega) (by first | lia | omega) (by first | lia | omega) (by first | lia | omega)) ?_)
  have hsz : Builtin.Range.rangeSize a b 1 = ((b - a).toNat : Int) := by rw [rangeSize_one]; split <;> first | lia | omega
  have e1 : a + ((0 : Nat) : Int) = a := by first | lia | omega
  have e2 : ((b - a).toNat : Int) - ((0 : Nat) : Int) = Builtin.Range.rangeSize a b 1 := by rw [hsz]; first | lia | omega
  refine h _ _ (Itr.range hh) (((I.push _).tok (s.toks + 1)).pushOwn rfl trivial) ?_
  unfold RgS
  rw [e1, e2]
  exact Heap.get?_push_size _ rfl
theorem pi_range1 {b : Int} {u : Tok} {Q : Value → Shared → Prop} (hh : A.handled = none) (I : St Z G B L m led s) (hb : -(2 ^ 40) ≤ b ∧ b ≤ 2 ^ 40)
    (h : ∀ i s', Itr prog w A i B b.toNat RgV1 (RgS i 0 b.toNat) → St Z G B L m ((i, anyO) :: led) s' → RgS i 0 b.toNat 0 s'.heap → Q (.ref i) s') :
    wpAny (model prog w) A (call (.type "range") [.int b u]) (fun x s₁ => wpAny (model prog w) A (pyIter x) Q E s₁) E s := by
  refine call_range_1 (wpAny_pyIter_range (IsRange.new ..) (small_one (by first | lia | omega) (by first | lia | omega) (by first | lia | omega) (by first | lia | omega)) ?_)
  have hsz : Builtin.Range.rangeSize 0 b 1 = (b.toNat : Int) := by rw [rangeSize_one]; split <;> first | lia | omega
  have e1 : (0 : Int) + ((0 : Nat) : Int) = 0 := by first | lia | omega
  have e2 : (b.toNat : Int) - ((0 : Nat) : Int) = Builtin.Range.rangeSize 0 b 1 := by rw [hsz]; first | lia | omega
  have W : Itr prog w A ((s.heap.push { cls := .type "range", data := .fields #[.int 0 s.toks, .int b u, .int 1 (s.toks + 1)] }).objs.size) B b.toNat (fun k v => ∃ t, v = .int k t) (fun k h => IsRangeIter h ((s.heap.push { cls := .type "range", data := .fields #[.int 0 s.toks, .int b u, .int 1 (s.toks + 1)] }).objs.size) (0 + k) ((b.toNat : Int) - k) 1) := by
    have := Itr.range (prog := prog) (w := w) (A := A) (B := B) (I := (s.heap.push { cls := .type "range", data := .fields #[.int 0 s.toks, .int b u, .int 1 (s.toks + 1)] }).objs.size) (a := 0) (n := b.toNat) hh
    simpa using this
  refine h _ _ W (((I.push _).tok (s.toks + 1 + 1)).pushOwn rfl trivial) ?_
  unfold RgS
  rw [e1, e2]
  exact Heap.get?_push_size _ rfl

theorem as_name {env : Env} {x : Str} {pos : Pos} {v : Value} {Q : Unit → Shared → Prop} (h : wpAny (model prog w) A (storeName env x v) Q E s) : wpAny (model prog w) A (assign (.Name x pos) env v) Q E s := PyProof.Rows.assign_Name h
theorem as_pair {env : Env} {x y : Str} {p q pos : Pos} {k : Nat} {t : Addr} {u v : Value} {Q : Unit → Shared → Prop} (hh : A.handled = none) (I : St Z G B L m led s) (ht : s.heap.IsTuple t #[u, v])
    (h : ∀ s', St Z G B L m led s' → wpAny (model prog w) A (storeName env x u) (fun _ s₁ => wpAny (model prog w) A (storeName env y v) Q E s₁) E s') : wpAny (model prog w) A (assign (.Tuple [.Name x p, .Name y q] k pos) env (.ref t)) Q E s := by
  refine assign_Tuple_tuple hh ht rfl rfl fun h' he => ?_
  have I' : St Z G B L m led { s with heap := h' } := I.keeps (t := s.toks) fun a o e => he a o (Nat.ne_of_lt (Heap.lt_size e)) e
  show wpAny (model prog w) A (assignInOrder [assign (.Name x p) env, assign (.Name y q) env] [u, v]) Q E _
  rw [assignInOrder]
  refine wpAny_bind (wpAny_holding (as_name (wpAny_mono (h _ I') (fun _ s₁ h₁ => ?_) fun _ _ e => e)))
  rw [assignInOrder]
  refine wpAny_bind (wpAny_holding (as_name (wpAny_mono h₁ (fun _ s₂ h₂ => ?_) fun _ _ e => e)))
  rw [assignInOrder]
  · exact wpAny_pure h₂
  · intros; simp_all
end Mine
end

section
open PySem PySem.Calls PySem.W PyProof.Rows
namespace Mine

variable {Z : Shared} {G B : Kn} {L : Addr} {m : Str → Option Value} {led : Led} {s : Shared} {w : World} {prog : Program} {A : Around} {E : Value → Shared → Prop} {d c : Addr} {P : Obj → Prop}

abbrev testsOf (ifs : List Expr) (env : Env) : Sem Bool := forIn ifs true fun c r => if r = true then do let ok ← isTrue c env (eval c env); pure (ForInStep.yield ok) else pure (ForInStep.yield r)

theorem codeAny_compLoop_go {elt target iter : Expr} {ifs : List Expr} {scope : Scope} {pos : Pos} {it acc : Value} {env : Env} {R : Result → Shared → Prop} (I : Nat → Shared → Prop)
    (turn : ∀ n s, I n s → wpAny (model prog w) A (pyNext it) (fun r s₁ => match r with
      | none => R (.ok .next) s₁
      | some v => wpAny (model prog w) A (letOwnedTupleGo target it v) (fun _ s₁' => wpAny (model prog w) A (assign target env v) (fun _ s₂ =>
          wpAny (model prog w) A (testsOf ifs env) (fun ok s₃ =>
            (ok = true → wpAny (model prog w) A (eval elt env) (fun x s₄ =>
              wpAny (model prog w) A (call (.builtin "list.append") [acc, x]) (fun _ s₅ => ∃ m, m < n ∧ I m s₅) (notedBy (model prog w) A env fun e s' => R (.error e) s') s₄) (notedBy (model prog w) A env fun e s' => R (.error e) s') s₃)
            ∧ (ok = false → ∃ m, m < n ∧ I m s₃)) (notedBy (model prog w) A env fun e s' => R (.error e) s') s₂) (notedBy (model prog w) A env fun e s' => R (.error e) s') s₁') (notedBy (model prog w) A env fun e s' => R (.error e) s') s₁) (notedBy (model prog w) A env fun e s' => R (.error e) s') s)
    (n : Nat) (h : I n s) :
    codeAny (model prog w) A (.compLoop (.ListComp elt [⟨target, iter, ifs, 0⟩] scope pos) 0 it acc env) R s := by
  refine codeAny_loop rfl I (fun n s hI => ?_) n h
  show wpAny _ A ((compTurn (.ListComp elt [⟨target, iter, ifs, 0⟩] scope pos) 0 it acc env).onRaise (fun x => do noteFrame x env; theTreesLotGoes x)) _ _ s
  refine wpAny_noted ?_
  rw [compTurn_list]
  refine wpAny_bind (wpAny_standAt (wpAny_bind (wpAny_mono (turn n s hI) (fun r s₁ h₁ => ?_) fun _ _ h' => h')))
  cases r with
  | none => exact wpAny_pure h₁
  | some v =>
    refine wpAny_bind (wpAny_mono h₁ (fun _ s₁' h₁' => ?_) fun _ _ h' => h')
    refine wpAny_bind (wpAny_mono h₁' (fun _ s₂ h₂ => wpAny_bind (wpAny_mono h₂ (fun ok s₃ h₃ => ?_) fun _ _ h' => h')) fun _ _ h' => h')
    cases ok with
    | false => exact wpAny_pure ⟨rfl, h₃.2 rfl⟩
    | true => exact wpAny_bind (wpAny_bind (wpAny_mono (h₃.1 rfl) (fun x s₄ h₄ => wpAny_bind (wpAny_mono h₄ (fun _ s₅ h₅ => wpAny_pure (wpAny_pure ⟨rfl, h₅⟩)) fun _ _ h' => h')) fun _ _ h' => h'))

def CompTurn (prog : Program) (w : World) (A : Around) (Z : Shared) (C : Addr) (cenv : Env) (target elt : Expr) (ifs : List Expr) (B : Kn) (n : Nat) (P : Nat → Value → Prop) (J : Nat → Kn → List Value → Led → Prop) : Prop :=
  ∀ i v B' ys led' G' mc s₂ E' (KY : Value → Shared → Prop) (KN : Shared → Prop), (∀ y s₅ B'' mc'' led'', Le B' B'' → J (i + 1) B'' (ys ++ [y]) led'' → St Z G' B'' C mc'' led'' s₅ → KY y s₅) → (∀ s₄ B'' mc'' led'', Le B' B'' → J (i + 1) B'' ys led'' → St Z G' B'' C mc'' led'' s₄ → KN s₄) →
    i < n → P i v → Le B B' → J i B' ys led' → St Z G' B' C mc led' s₂ →
    wpAny (model prog w) A (assign target cenv v) (fun _ s₃ => wpAny (model prog w) A (testsOf ifs cenv) (fun ok s₄ => (ok = true → wpAny (model prog w) A (eval elt cenv) KY E' s₄) ∧ (ok = false → KN s₄)) E' s₃) E' s₂

theorem comp_loop {elt target iter : Expr} {ifs : List Expr} {scope : Scope} {pos : Pos} {I D C : Addr} {cenv : Env} {n : Nat} {P : Nat → Value → Prop} {S : Nat → Heap → Prop} {R : Result → Shared → Prop} {mc : Str → Option Value} (hz : n ≤ 1000) (W : Itr prog w A I B n P S)
    (J : Nat → Kn → List Value → Led → Prop) (I0 : St Z G B C mc ((I, anyO) :: (D, LP []) :: led) s) (S0 : S 0 s.heap) (j0 : J 0 B [] led)
    (turn : CompTurn prog w A Z C cenv target elt ifs B n P J)
    (fin : ∀ B' mc' ys led' s₂, Le B B' → J n B' ys led' → St Z G B' C mc' ((D, LP ys) :: led') s₂ → R (.ok .next) s₂) :
    codeAny (model prog w) A (.compLoop (.ListComp elt [⟨target, iter, ifs, 0⟩] scope pos) 0 (.ref I) (.ref D) cenv) R s := by
  refine codeAny_compLoop_go (fun k s' => ∃ i B' mc' ys led', k = n + 1 - i ∧ i ≤ n ∧ ys.length ≤ i ∧ Le B B' ∧ J i B' ys led' ∧ St Z G B' C mc' ((I, anyO) :: (D, LP ys) :: led') s' ∧ S i s'.heap) ?_ (n + 1) ⟨0, B, mc, [], led, rfl, Nat.zero_le _, Nat.le_refl _, Le.rfl, j0, I0, S0⟩
  intro k s' hk0
  refine opq fun X hX => ?_
  obtain ⟨i, B', mc', ys, led', rfl, hi, hy, hle, hj, I', S'⟩ := hk0
  refine hX ?_
  clear hX
  by_cases hlt : i < n
  · refine W.item i _ _ _ hlt S' fun v h₁ tk₁ hp S₁ hk₁ => ?_
    obtain ⟨o₁, ho₁⟩ := W.obj _ _ S₁
    have I₁ : St Z G B' C mc' ((I, anyO) :: (D, LP ys) :: led') { s' with heap := h₁, toks := tk₁ } := I'.chgE hk₁ ho₁ trivial
    refine W.go _ _ _ _ _ _ S₁ ?_
    refine opq fun X hX => ?_
    obtain ⟨o, _, ho, hG, _, _, I₂⟩ := I₁.hold
    obtain ⟨o', hp', ho', hG', _, _, I₃⟩ := I₂.hold
    refine hX ?_
    clear hX
    have nx : ∀ ys' s₄, ys'.length ≤ i + 1 → (∃ B'' m'' led'', Le B' B'' ∧ J (i + 1) B'' ys' led'' ∧ St Z (know G I o) B'' C m'' ((D, LP ys') :: led'') s₄) → ∃ k', k' < n + 1 - i ∧ ∃ i' B' mc' ys led', k' = n + 1 - i' ∧ i' ≤ n ∧ ys.length ≤ i' ∧ Le B B' ∧ J i' B' ys led' ∧ St Z G B' C mc' ((I, anyO) :: (D, LP ys) :: led') s₄ ∧ S i' s₄.heap := by
      rintro ys' s₄ hl ⟨B'', m'', led'', l2, j2, I₄⟩
      refine ⟨n + 1 - (i + 1), by first | lia | omega, i + 1, B'', m'', ys', led'', rfl, hlt, hl, hle.trans l2, j2, I₄.unhold hG trivial, W.frame _ _ _ S₁ (fun o' e => ?_) fun a o' e => I₄.kn _ _ (l2 _ _ (hle _ _ e))⟩
      have e : h₁.get? I = some o' := e
      have : (some o : Option Obj) = some o' := ho.symm.trans e
      cases this
      exact I₄.gh _ _ know_same
    refine wpAny_mono (turn i v B' ys led' _ _ _ _ (fun y s₅ => ∃ B'' mc'' led'', Le B' B'' ∧ J (i + 1) B'' (ys ++ [y]) led'' ∧ St Z (know (know G I o) D o') B'' C mc'' led'' s₅) (fun s₄ => ∃ B'' mc'' led'', Le B' B'' ∧ J (i + 1) B'' ys led'' ∧ St Z (know (know G I o) D o') B'' C mc'' led'' s₄) (fun _ _ B'' mc'' led'' q1 q2 q3 => ⟨B'', mc'', led'', q1, q2, q3⟩) (fun _ B'' mc'' led'' q1 q2 q3 => ⟨B'', mc'', led'', q1, q2, q3⟩) hlt hp hle hj I₃) (fun _ s₃ h₃ => wpAny_mono h₃ (fun ok s₄ h₄ => ⟨fun ho => ?_, fun ho => ?_⟩) fun _ _ e => e) fun _ _ e => e
    · refine wpAny_mono (h₄.1 ho) (fun y s₅ h₅ => ?_) fun _ _ e => e
      obtain ⟨B'', m'', led'', l2, j2, I₅⟩ := h₅
      refine r_append (I₅.unhold hG' hp') (by first | lia | omega) fun s₆ I₆ => ?_
      exact nx _ _ (by rw [List.length_append, List.length_singleton]; first | lia | omega) ⟨B'', m'', led'', l2, j2, I₆⟩
    · obtain ⟨B'', m'', led'', l2, j2, I₅⟩ := h₄.2 ho
      exact nx _ _ (by first | lia | omega) ⟨B'', m'', led'', l2, j2, I₅.unhold hG' hp'⟩
  · have hin : i = n := by first | lia | omega
    subst hin
    refine W.done _ _ _ S' fun h₁ tk₁ hk₁ => ?_
    exact fin B' mc' ys led' _ hle hj (I'.lost hk₁)

theorem comp_block {env : Env} {elt target iter : Expr} {ifs : List Expr} {scope : Scope} {cl : List (Str × Addr)} {pos : Pos} {I : Addr} {n : Nat} {P : Nat → Value → Prop} {S : Nat → Heap → Prop} {RR : Value → Addr → Result → Shared → Prop} (hz : n ≤ 1000) (W : Itr prog w A I B n P S)
    (J : Nat → Kn → List Value → Led → Prop) (I0 : St Z G B L m ((I, anyO) :: led) s) (S0 : S 0 s.heap) (j0 : J 0 B [] led)
    (hcell : ∀ y ∈ scope.names, y.2 ≠ .cell) (hkind : scope.kind = .function)
    (turn : ∀ C, CompTurn prog w A Z C (compEnvC scope cl C env) target elt ifs B n P J)
    (fin : ∀ B' ys led' s₂ D C mc, Le B B' → J n B' ys led' → St Z G B' L m ((D, LP ys) :: led') s₂ → s₂.heap.Ns C mc → C ≠ L → B' C = none → G C = none → (∀ p ∈ ((D, LP ys) :: led'), p.1 ≠ C) → RR (.ref D) C (.ok .next) s₂) :
    wpAny (model prog w) A (newList []) (fun acc s₃ => wpAny (model prog w) A (newFunctionEnv scope env.globals cl [] env.qual none .none (some env)) (fun cenv s₄ =>
      codeAny (model prog w) A (.compStart (.ListComp elt [⟨target, iter, ifs, 0⟩] scope pos) 0 (.ref I) acc { cenv with scope := relabel scope env }) (RR acc cenv.locals) s₄) E s₃) E s := by
  refine wpAny_newList ?_ (by simp [sizeLine_eq])
  have I1 := (I0.pushOwn (o := { cls := .type "list", data := .seq ([] : List Value).toArray }) (P := LP []) rfl ⟨0, rfl⟩)
  generalize hs1 : ({ s with heap := s.heap.push { cls := .type "list", data := .seq ([] : List Value).toArray } } : Shared) = s₁ at I1 ⊢
  refine wpAny_newFunctionEnv hcell (by intro y hy; simp at hy) (fun h₁ hns₁ hsb₁ => ?_) hkind
  have hk : ∀ a o, s₁.heap.get? a = some o → h₁.get? a = some o := fun a o e => hsb₁.extBut a o (Nat.ne_of_lt (Heap.lt_size e)) (Heap.get?_push_of_some _ e)
  have I1' : St Z G B L m (((I, anyO) :: (s.heap.objs.size, LP []) :: led) ++ []) s₁ := by rw [List.append_nil]; exact I1.swap
  have I2 := I1'.enter (lp := (I, anyO) :: (s.heap.objs.size, LP []) :: led) (lk := []) (t := s₁.toks + ([] : List (Str × Value)).length) fresh_none hns₁ hk
  have S1 : S 0 h₁ := W.frame _ _ _ S0 (fun o e => hk _ _ (by rw [← hs1]; exact Heap.get?_push_of_some _ e)) fun a o e => hk _ _ (I1.kn _ _ e)
  have loop : codeAny (model prog w) A (.compLoop (.ListComp elt [⟨target, iter, ifs, 0⟩] scope pos) 0 (.ref I) (.ref s.heap.objs.size) (compEnvC scope cl s₁.heap.objs.size env)) (RR (.ref s.heap.objs.size) s₁.heap.objs.size) { s₁ with heap := h₁, toks := s₁.toks + ([] : List (Str × Value)).length } := by
    refine comp_loop hz W J I2 S1 j0 (turn _) fun B' mc' ys led' s₂ hle hj J2 => ?_
    have I3 := I1'.leave (lp := (I, anyO) :: (s.heap.objs.size, LP []) :: led) (lk := []) J2
    rw [List.append_nil] at I3
    have cL : s₁.heap.objs.size ≠ L := I1.freshL
    have cG : G s₁.heap.objs.size = none := I1.freshG
    exact fin B' ys led' s₂ _ _ mc' hle hj I3 J2.ns cL J2.offB cG fun p hp => J2.ownL p hp
  exact codeAny_compStart_list loop (W.self 0 _ _ _ S1 loop)

theorem e_comp {env : Env} {elt target iter : Expr} {ifs : List Expr} {scope : Scope} {cl : List (Str × Addr)} {pos : Pos} {Q : Value → Shared → Prop}
    (h : ∀ K : Value → Shared → Prop, (∀ {I n P S G B L m led s₂} (J : Nat → Kn → List Value → Led → Prop), n ≤ 1000 → Itr prog w A I B n P S → St Z G B L m ((I, anyO) :: led) s₂ → S 0 s₂.heap → J 0 B [] led →
        (∀ C, CompTurn prog w A Z C (compEnvC scope cl C env) target elt ifs B n P J) → (∀ D B' ys led' s', Le B B' → J n B' ys led' → St Z G B' L m ((D, LP ys) :: led') s' → Q (.ref D) s') → K (.ref I) s₂) →
      wpAny (model prog w) A (eval iter env) (fun xv s₁ => wpAny (model prog w) A (pyIter xv) K E s₁) E s)
    (hclos : closureFor scope env = pure cl) (hcell : ∀ y ∈ scope.names, y.2 ≠ .cell := by decide) (hkind : autoParam (scope.kind = .function) tacR)
    (hnames : ∀ y ∈ scope.names, y.2 = .local → scope.names.lookup y.1 = some .local := by decide) (hs : ∀ x, foldedSetIterable iter env x = pure x := by intro _; rfl) :
    wpAny (model prog w) A (eval (.ListComp elt [⟨target, iter, ifs, 0⟩] scope pos) env) Q E s := by
  rw [eval_ListComp]
  refine wpAny_comprehension_free (use := none) rfl hs hclos hkind hnames (wpAny_mono (h _ ?_) (fun xv s₁ h₁ => wpAny_mono h₁ (fun it s₂ h₂ => h₂) fun _ _ e => e) fun _ _ e => e)
  intro I n P S G B L m led s₂ J hz W I0 S0 j0 turn k
  refine comp_block (RR := fun acc C => compPost (model prog w) A E none Q acc C) hz W J I0 S0 j0 hcell hkind turn ?_
  intro B' ys led' s' D C mc hle hj I' hns cL cB cG cl
  exact ⟨mc, hns, fun h' hs' => k D B' ys led' _ hle hj (I'.other hs' cL cB cG cl)⟩

theorem x_comp {env : Env} {elt target iter : Expr} {ifs : List Expr} {scope : Scope} {cl : List (Str × Addr)} {pos spos py : Pos} {y : Str} {rest : List Stmt} {Q : Flow → Shared → Prop}
    (h : ∀ K : Value → Shared → Prop, (∀ {I n P S G B m led s₂} (J : Nat → Kn → List Value → Led → Prop), n ≤ 1000 → Itr prog w A I B n P S → St Z G B env.locals m ((I, anyO) :: led) s₂ → S 0 s₂.heap → J 0 B [] led →
        (∀ C, CompTurn prog w A Z C (compEnvC scope cl C env) target elt ifs B n P J) → (∀ D B' ys led' s', Le B B' → J n B' ys led' → St Z G B' env.locals (upd m y (.ref D)) ((D, LP ys) :: led') s' → wpAny (model prog w) A (execs rest env) Q E s') → K (.ref I) s₂) →
      wpAny (model prog w) A (eval iter env) (fun xv s₁ => wpAny (model prog w) A (pyIter xv) K E s₁) E s)
    (hclos : closureFor scope env = pure cl) (hsw : autoParam (swapsWith (.ListComp elt [⟨target, iter, ifs, 0⟩] scope pos) (some (.Name y py)) spos.line env = pure true) tacR)
    (hcell : ∀ y ∈ scope.names, y.2 ≠ .cell := by decide) (hkind : autoParam (scope.kind = .function) tacR)
    (hnames : ∀ y ∈ scope.names, y.2 = .local → scope.names.lookup y.1 = some .local := by decide) (hy : autoParam (env.kindOf y = some .local) tacR) (hek : autoParam (env.scope.kind = .function) tacR) (hs : ∀ x, foldedSetIterable iter env x = pure x := by intro _; rfl) :
    wpAny (model prog w) A (execs (.Assign [.Name y py] (.ListComp elt [⟨target, iter, ifs, 0⟩] scope pos) spos :: rest) env) Q E s := by
  refine wpAny_execs_cons ?_
  rw [exec_Assign_Name_used _ _ _ _ hsw]
  refine wpAny_bind (wpAny_standAt (wpAny_bind ?_))
  show wpAny _ A (do let _ ← comprehension (.ListComp elt [⟨target, iter, ifs, 0⟩] scope pos) scope env _ (newList []) false (eval iter env) (some (assign (.Name y py) env))) _ _ s
  refine wpAny_bind (wpAny_mono (wpAny_comprehension_free (use := some (assign (.Name y py) env)) (Q := fun _ s' => wpAny (model prog w) A (execs rest env) Q E s') rfl hs hclos hkind hnames
    (wpAny_mono (h _ ?_) (fun xv s₁ h₁ => wpAny_mono h₁ (fun it s₂ h₂ => h₂) fun _ _ e => e) fun _ _ e => e)) (fun _ s' hq => wpAny_pure (wpAny_pure hq)) fun _ _ e => e)
  intro I n P S G B m led s₂ J hz W I0 S0 j0 turn k
  refine comp_block (RR := fun acc C => compPost (model prog w) A E (some (assign (.Name y py) env)) (fun _ s' => wpAny (model prog w) A (execs rest env) Q E s') acc C) hz W J I0 S0 j0 hcell hkind turn ?_
  intro B' ys led' s' D C mc hle hj I' hns cL cB cG cl
  show wpAny _ A (assign (.Name y py) env (.ref D)) _ _ _
  refine as_name (wpAny_storeName_local hy I'.ns (fun h₂ hn₂ hs₂ => ?_) (by rw [hek]; rfl))
  have I'' := I'.store (t := s'.toks + 1) hn₂ hs₂
  exact ⟨mc, hns.sameBut hs₂ cL, fun h' hs' => k D B' ys led' _ hle hj (I''.other hs' cL cB cG cl)⟩
end Mine
end

section
open PySem PySem.Calls PySem.W PyProof.Rows
namespace Mine

variable {Z : Shared} {G B : Kn} {L : Addr} {m : Str → Option Value} {led : Led} {s : Shared} {w : World} {prog : Program} {A : Around} {E : Value → Shared → Prop} {d c : Addr} {P : Obj → Prop}

theorem St.learn (I : St Z G B L m led s) {a : Addr} {o : Obj} (he : s.heap.get? a = some o) (hB : B a = none) (hG : G a = none) (hL : a ≠ L) (hl : ∀ p ∈ led, p.1 ≠ a) : St Z G (know B a o) L m led s := by
  obtain ⟨a1, a2, a3, a4, a5, a6, a7, a8, a9, b1, b2, b3⟩ := I
  refine ⟨a1, a2, fun b x e => ?_, a4, fun b x e => ?_, ?_, a7, a8, a9, fun p hp => ?_, b2, b3⟩
  · unfold know at e
    split at e
    · rename_i q; subst q; cases e; exact he
    · exact a3 b x e
  · unfold know
    rw [if_neg (fun q => by subst q; rw [hG] at e; cases e)]; exact a5 b x e
  · unfold know
    rw [if_neg (fun q => hL q.symm)]; exact a6
  · unfold know
    rw [if_neg (hl p hp)]; exact b1 p hp

theorem get_beyond {h : Heap} {a : Addr} (ha : h.objs.size ≤ a) : h.get? a = none := by
  cases e : h.get? a with
  | none => rfl
  | some o => exact absurd (Heap.lt_size e) (Nat.not_lt.mpr ha)

theorem call_fnC {n : Nat} {lp lk : Led} {Q : Value → Shared → Prop} {name qual : Str} {params : Arguments} {body : List Stmt} {scope : Scope} {dV kV doc pm cdv ct oc : Value} {an od : Option Addr} {osl : Array (Option Value)} {f : Addr} {args : List Value} {binds : List (Str × Value)} {x : Str} {vx : Value}
    (hA : Ar (n + 1) A) (I : St Z G B L m (lp ++ lk) s) (hB : Amb w B)
    (ho : (KK w).lookup f = some ⟨oc, od, .func (fnOf name qual params body scope dV kV doc pm an cdv ct), osl⟩) (hcd : codeIn (KK w) cdv qual = true)
    (hbind : bindArgs (fnOf name qual params body scope dV kV doc pm an cdv ct) ⟨args, []⟩ = pure binds)
    (hkind : (binds.all fun y => scope.names.lookup y.1 == some .local || scope.names.lookup y.1 == some .cell) = true)
    (hc : ∀ n, (cellsFrom (n + 1) scope.names []).lookup x = some (n + 1)) (hv : ∀ n, bindC (callEnvC (fnOf name qual params body scope dV kV doc pm an cdv ct) n f).kindOf binds (fun _ => none) x = some vx)
    (h : ∀ G' B₁ L' m₁ s₁ (A' : Around) (P : Flow → Shared → Prop), (∀ v s' B' m' led', Le B B' → St Z G' B' L' m' led' s' → (St Z G B' L m (led' ++ lk) s' → Q v s') → P (.ret v) s') → Ar n A' → Le B B₁ → (∃ o, B₁ (L' + 1) = some o ∧ o.data = .cell (some vx)) → (∀ y, m₁ y = bindL (callEnvC (fnOf name qual params body scope dV kV doc pm an cdv ct) L' f).kindOf binds (fun _ => none) y) → St Z G' B₁ L' m₁ lp s₁ →
      wpAny (model prog w) A' (execs body (callEnvC (fnOf name qual params body scope dV kV doc pm an cdv ct) L' f))
        P (fun _ _ => False) s₁)
    (hco : autoParam (scope.isCoroutine = false) tacR) (hgen : autoParam (scope.isGenerator = false) tacR) (hk : autoParam (scope.kind = .function) tacR) : wpAny (model prog w) A (call (.ref f) args) Q E s := by
  refine wpAny_call ?_
  refine codeAny_call_cells (fd := fnOf name qual params body scope dV kV doc pm an cdv ct) (body := body) (binds := binds) hA.room (I.kin hB _ _ ho) rfl (I.lim hB) (codeRec_of (I.kin hB) hcd) rfl hbind rfl (kindsX hkind _) (fun s₁ X => ?_) hco hgen hk
  obtain ⟨h₁, tk, rfl⟩ := X.toInCall.same
  have I1 := I.enter (t := tk) (fresh_none) X.toInCall.ns X.toInCall.keep
  obtain ⟨oc', hoc, hdc⟩ := X.cell x _ (hc s.heap.objs.size)
  have nB : B (s.heap.objs.size + 1) = none := by
    cases e : B (s.heap.objs.size + 1) with
    | none => rfl
    | some o => have := I.kn _ _ e; rw [get_beyond (Nat.le_succ _)] at this; cases this
  have nG : held G s.heap L lk (s.heap.objs.size + 1) = none := by
    unfold held
    split
    · exact get_beyond (Nat.le_succ _)
    · cases e : G (s.heap.objs.size + 1) with
      | none => rfl
      | some o => have := I.gh _ _ e; rw [get_beyond (Nat.le_succ _)] at this; cases this
  have nl : ∀ p ∈ lp, p.1 ≠ s.heap.objs.size + 1 := fun p hp q => by
    obtain ⟨o, e, _⟩ := I.own p (List.mem_append_left _ hp)
    rw [q, get_beyond (Nat.le_succ _)] at e; cases e
  have I2 := I1.learn hoc nB nG (Nat.succ_ne_self _) nl
  refine wpAny_mono (h _ _ s.heap.objs.size _ _ _ (fun fl s' => ∃ B' m' led', St Z (held G s.heap L lk) B' s.heap.objs.size m' led' s' ∧ (St Z G B' L m (led' ++ lk) s' → Q (match fl with | .ret v => v | _ => .none) s')) (fun _ _ B' m' led' _ J k => ⟨B', m', led', J, k⟩) (hA.deeper _) (le_know nB) ⟨oc', know_same, hdc.trans (by rw [hv s.heap.objs.size])⟩ (fun _ => rfl) I2) (fun fl s' q => ?_) fun _ _ q => q.elim
  obtain ⟨B', m', led', J, k⟩ := q
  exact k (I.leave J)
end Mine
end

section
open PySem PySem.Calls PySem.W PyProof.Rows
namespace Mine

variable {Z : Shared} {G B : Kn} {L : Addr} {m : Str → Option Value} {led : Led} {s : Shared} {w : World} {prog : Program} {A : Around} {E : Value → Shared → Prop} {d c : Addr} {P : Obj → Prop}

abbrev h0 : Heap := { objs := #[], life := {} }
def allBut (h : Heap) (p : Addr → Bool) : List (Addr × Obj) := (List.range h.objs.size).filterMap fun a => if p a then none else (h.get? a).map (a, ·)
theorem mem_allBut {h : Heap} {p : Addr → Bool} {q : Addr × Obj} : q ∈ allBut h p ↔ p q.1 = false ∧ h.get? q.1 = some q.2 := by
  unfold allBut
  rw [List.mem_filterMap]
  constructor
  · rintro ⟨a, _, e⟩
    split at e
    · cases e
    · rename_i hp
      obtain ⟨o, ho, e⟩ := Option.map_eq_some_iff.mp e
      subst e
      exact ⟨by simpa using hp, ho⟩
  · rintro ⟨h1, h2⟩
    refine ⟨q.1, List.mem_range.mpr (Heap.lt_size h2), ?_⟩
    rw [h1, if_neg (by decide), h2]; rfl
theorem h0_get (a : Addr) : h0.get? a = none := by simp [Heap.get?]
theorem St.fr (I : St Z G B L m led s) : Fr h0 L s.heap m := ⟨I.ns, fun b o e => (by rw [h0_get] at e; cases e), Nat.zero_le _⟩
theorem St.news (I : St Z G B L m led s) (p : Addr → Bool) (hp : p L = true) : News h0 L s.heap (allBut s.heap p) := fun q hq => by
  obtain ⟨h1, h2⟩ := mem_allBut.mp hq
  exact ⟨h2, fun e => (by rw [e, hp] at h1; cases h1), h0_get _⟩
theorem St.newsD {o : Obj} (I : St Z G B L m ((d, P) :: led) s) (ho : s.heap.get? d = some o) : News h0 L s.heap ([] ++ (d, o) :: allBut s.heap (fun a => a == L || a == d)) := fun q hq => by
  rcases List.mem_cons.mp hq with rfl | hq
  · exact ⟨ho, I.ownL (d, P) (.head _), h0_get _⟩
  · exact St.news I _ (by simp) q hq
theorem newsD_off {h : Heap} : ∀ p ∈ allBut h (fun a => a == L || a == d), p.1 ≠ d := fun p hp q => by
  have := (mem_allBut.mp hp).1
  rw [q] at this; simp at this
theorem St.backD {P' : Obj → Prop} {o' : Obj} {m' : Str → Option Value} (I : St Z G B L m ((d, P) :: led) s) {h' : Heap} {t : Nat} (F : Fr h0 L h' m') (N : News h0 L h' ([] ++ (d, o') :: allBut s.heap (fun a => a == L || a == d))) (hp : P' o') : St Z G B L m' ((d, P') :: led) { s with heap := h', toks := t } := by
  obtain ⟨⟨h, tk, rfl⟩, a2, a3, a4, a5, a6, a7, a8, a9, b1, b2, b3⟩ := I
  have dL : d ≠ L := a9 (d, P) (.head _)
  have dB : B d = none := b1 (d, P) (.head _)
  have dG : G d = none := b2 (d, P) (.head _)
  obtain ⟨n1, n2⟩ := List.nodup_cons.mp b3
  have k : ∀ a o, a ≠ L → a ≠ d → h.get? a = some o → h'.get? a = some o := fun a o n1 n2 e => (N (a, o) (.tail _ (mem_allBut.mpr ⟨by simp [n1, n2], e⟩))).1
  refine ⟨⟨h', t, rfl⟩, F.ns, fun a o e => k a o (fun q => by subst q; rw [a6] at e; cases e) (fun q => by subst q; rw [dB] at e; cases e) (a3 a o e), fun a o e => k a o (fun q => by subst q; rw [a7] at e; cases e) (fun q => by subst q; rw [dG] at e; cases e) (a4 a o e), a5, a6, a7, fun p hp' => ?_, fun p hp' => ?_, fun p hp' => ?_, fun p hp' => ?_, b3⟩
  · rcases List.mem_cons.mp hp' with rfl | hm
    · exact ⟨o', (N (d, o') (.head _)).1, hp⟩
    · obtain ⟨o, e, q⟩ := a8 p (.tail _ hm)
      exact ⟨o, k _ _ (a9 p (.tail _ hm)) (fun z => n1 (List.mem_map.mpr ⟨p, hm, z⟩)) e, q⟩
  · rcases List.mem_cons.mp hp' with rfl | hm
    · exact dL
    · exact a9 p (.tail _ hm)
  · rcases List.mem_cons.mp hp' with rfl | hm
    · exact dB
    · exact b1 p (.tail _ hm)
  · rcases List.mem_cons.mp hp' with rfl | hm
    · exact dG
    · exact b2 p (.tail _ hm)
def IsO (B : Kn) (C x : Addr) (es : List DictEntry) : Prop := ∃ dx n, B x = some (instObj C dx) ∧ B dx = some (dictOf es n)
theorem IsO.mono {B B' : Kn} {C x : Addr} {es : List DictEntry} (h : IsO B C x es) (l : Le B B') : IsO B' C x es := let ⟨dx, n, a, b⟩ := h; ⟨dx, n, l _ _ a, l _ _ b⟩
def IO (C dx : Addr) (o : Obj) : Prop := o = instObj C dx
def DO (es : List DictEntry) (o : Obj) : Prop := ∃ n, o = dictOf es n

section
variable {Q : Value → Shared → Prop} {C x dx : Addr} {es : List DictEntry} {name : Str} {v : Value} {attr : Option Value} {expr : Bool} {env : Env} {pos : Pos}
theorem g_attrAt {ox : Obj} {n : Nat} (I : St Z G B L m led s) (hB : Amb w B) (hi : PySem.W.InstAt s.heap x ox C (some (dictOf es n))) (hl : getL name es = some (some v)) (hv : handedIn v = true) (h : ∀ s', St Z G B L m led s' → Q v s')
    (hg : plainGet (KK w) C name = true) (hh : hasDictIn (KK w) C = true) (ha : findIn (KK w) (.ref C) name = some attr) (hn : noGet (KK w) attr = true) : wpAny (model prog w) A (getAttr (.ref x) name expr) Q E s :=
  get_value (I.kin hB) hi (plainGet_of hg).1 (findObj_own hh ha hn hl) hv (h _ (I.tok _))
theorem g_attr (I : St Z G B L m led s) (hB : Amb w B) (hx : IsO B C x es) (hl : getL name es = some (some v)) (hv : handedIn v = true) (h : ∀ s', St Z G B L m led s' → Q v s')
    (hg : plainGet (KK w) C name = true) (hh : hasDictIn (KK w) C = true) (ha : findIn (KK w) (.ref C) name = some attr) (hn : noGet (KK w) attr = true) : wpAny (model prog w) A (getAttr (.ref x) name expr) Q E s := by
  obtain ⟨dx, n, a, b⟩ := hx
  exact g_attrAt I hB ⟨I.kn _ _ a, rfl, rfl, I.kn _ _ b⟩ hl hv h hg hh ha hn
theorem g_meth {f : Addr} {pl : Sem Bool} {Q : Value × List Value → Shared → Prop} (I : St Z G B L m led s) (hB : Amb w B) (hx : IsO B C x es) (hl : getL name es = some none) (h : Q (.ref f, [.ref x]) s)
    (hg : plainGet (KK w) C name = true) (hf : findIn (KK w) (.ref C) name = some (some (.ref f))) (ht : isFn (KK w) (.ref f) = true) : wpAny (model prog w) A (getMethod (.ref x) name pl) Q E s := by
  obtain ⟨dx, n, a, b⟩ := hx
  have hi : PySem.W.InstAt s.heap x (instObj C dx) C (some (dictOf es n)) := ⟨I.kn _ _ a, rfl, rfl, I.kn _ _ b⟩
  exact method_fn (I.kin hB) hi (plainGet_of hg).1 (plainGet_of hg).2 hf (beq_iff_eq.mp ht) (by show (lookIn name (dictOf es n)).map _ = _; rw [lookIn_dict, hl]; rfl) h
theorem r_setattr {Q : Unit → Shared → Prop} (I : St Z G B L m ((dx, DO es) :: (x, IO C dx) :: led) s) (hB : Amb w B) (hl : (getL name es).isSome = true) (hz : es.length ≤ 100)
    (h : ∀ t s', St Z G B L m ((dx, DO (putL name (PyData.keyHash w.params name) (.str name t) v es)) :: (x, IO C dx) :: led) s' → Q () s')
    (hs : findIn (KK w) (.ref C) "__setattr__" = some (some (.builtin "object.__setattr__"))) (hp : plainOver (KK w) C = true) (ht : takerIn (KK w) C name = some none) (hh : (clsIn (KK w) C).any (·.hasDict) = true) :
    wpAny (model prog w) A (setAttr (.ref x) name v) Q E s := by
  obtain ⟨o, ho, n, rfl⟩ := I.head
  obtain ⟨ox, hox, rfl⟩ := I.swap.head
  have hi : PySem.W.InstAt s.heap x (instObj C dx) C (some (dictOf es n)) := ⟨hox, rfl, rfl, ho⟩
  refine set_plain (I.kin hB) hi hs ?_
  have hlen : (putL name (PyData.keyHash w.params name) (.str name (s.toks + 1)) v es).length ≤ 1000 := by
    have : ∀ (es : List DictEntry), (putL name (PyData.keyHash w.params name) (.str name (s.toks + 1)) v es).length ≤ es.length + 1 := by
      intro es
      induction es with
      | nil => simp [putL]
      | cons e r ih => unfold putL; split <;> simp <;> omega
    have := this es
    omega
  exact osa_dict (s := { s with toks := s.toks + 1 }) (I.tok (s.toks + 1)).fr ((I.tok (s.toks + 1)).newsD ho) ((I.tok (s.toks + 1)).kin hB) hi rfl hp ht hh (by rw [lookIn_dict]; exact hl) (fun p hp => nomatch hp) newsD_off (by rw [putName_dict]) rfl hlen
    fun h' F' N' => h _ _ (I.backD (t := s.toks + 1 + 1) F' N' ⟨_, rfl⟩)
end
end Mine
end

section
open PySem PySem.Calls PySem.W PyProof.Rows
namespace Mine

variable {Z : Shared} {G B : Kn} {L : Addr} {m : Str → Option Value} {led : Led} {s : Shared} {w : World} {prog : Program} {A : Around} {E : Value → Shared → Prop} {d c : Addr} {P : Obj → Prop}

theorem Ar.make {n : Nat} {C : Addr} {vals : List Value} (h : Ar (n + 1) A) : Ar n (A.under (.builtin "type.__call__" ⟨.ref C :: vals, []⟩)) :=
  ⟨h.h, by have := h.d; rw [depth_under_make]; first | lia | omega, by have := h.u; rw [units_under_make]; first | lia | omega⟩

theorem make_obj {n : Nat} {lp lk : Led} {Q : Value → Shared → Prop} {name qual : Str} {params : Arguments} {body : List Stmt} {scope : Scope} {dV kV doc pm cdv ct oc : Value} {an od : Option Addr} {osl : Array (Option Value)} {C f : Addr} {rest : List Value} {binds : Value → List (Str × Value)}
    (hA : Ar (n + 2) A) (I : St Z G B L m (lp ++ lk) s) (hB : Amb w B) (hm : makesIn (KK w) C = true) (hi : findIn (KK w) (.ref C) "__init__" = some (some (.ref f))) (hf : typeIn (KK w) (.ref f) = some (.type "function"))
    (ho : (KK w).lookup f = some ⟨oc, od, .func (fnOf name qual params body scope dV kV doc pm an cdv ct), osl⟩) (hcd : codeIn (KK w) cdv qual = true)
    (hbind : ∀ x s', (KK w).In s'.heap → BindsTo s' (fnOf name qual params body scope dV kV doc pm an cdv ct) ⟨x :: rest, []⟩ (binds x)) (hloc : ∀ x, ((binds x).all fun x => decide (scope.names.lookup x.1 = some .local)) = true)
    (h : ∀ (x dx : Addr) (G' : Kn) (L' : Addr) m₁ s₁ (A' : Around) (P : Flow → Shared → Prop), (∀ s' B' m' led', Le B B' → St Z G' B' L' m' led' s' → (St Z G B' L m (led' ++ lk) s' → Q (.ref x) s') → P .next s') → Ar n A' → (∀ y, m₁ y = (binds (.ref x)).reverse.lookup y) → St Z G' B L' m₁ ((dx, DO []) :: (x, IO C dx) :: lp) s₁ →
      wpAny (model prog w) A' (execs body (envOf qual scope L' f cdv))
        P (fun _ _ => False) s₁)
    (hco : autoParam (scope.isCoroutine = false) tacR) (hgen : autoParam (scope.isGenerator = false) tacR) (hk : autoParam (scope.kind = .function) tacR)
    (hcell : ∀ x ∈ scope.names, x.2 ≠ .cell := by decide) : wpAny (model prog w) A (call (.ref C) rest []) Q E s := by
  refine wpAny_call ?_
  have hsame := I.same
  obtain ⟨hh, tk, rfl⟩ := hsame
  refine make_core (makes_of (I.kin hB) hm) (looks_findIn (I.kin hB) hi) (fun self => bind_fn (I.kin hB) self hf) (.inl rfl) ?_
  have e0 : dictOf [] 0 = emptyDict := rfl
  have I1 := (I.pushOwn (o := emptyDict) (P := DO []) rfl ⟨0, rfl⟩)
  have I2 := (I1.pushOwn (o := instObj C hh.objs.size) (P := IO C hh.objs.size) rfl rfl).swap
  have esz : ({ Z with heap := hh.push emptyDict, toks := tk } : Shared).heap.objs.size = hh.objs.size + 1 := Heap.size_push _ _
  rw [esz] at I2
  refine codeAny_call_def (fd := fnOf name qual params body scope dV kV doc pm an cdv ct) (body := body) (binds := binds (.ref (hh.objs.size + 1))) hA.make.room (I2.kin hB _ _ ho) rfl (I2.lim hB) (codeRec_of (I2.kin hB) hcd) rfl (hbind _ _ (I2.kin hB)) hcell (locs (hloc _)) (fun h₁ hns hk₁ => ?_) hco hgen hk
  have I3 : St Z G B L m (((hh.objs.size, DO []) :: (hh.objs.size + 1, IO C hh.objs.size) :: lp) ++ lk) _ := I2
  refine wpAny_mono (h _ _ _ _ _ _ _ (fun fl s' => ∃ B' m' led', St Z (held G ({ Z with heap := (hh.push emptyDict).push (instObj C hh.objs.size), toks := tk } : Shared).heap L lk) B' ({ Z with heap := (hh.push emptyDict).push (instObj C hh.objs.size), toks := tk } : Shared).heap.objs.size m' led' s' ∧ (St Z G B' L m (led' ++ lk) s' → (match fl with | .ret v => v | _ => .none) = .none ∧ Q (.ref (hh.objs.size + 1)) s')) (fun _ B' m' led' _ J k => ⟨B', m', led', J, fun q => ⟨rfl, k q⟩⟩) (hA.make.deeper _) (fun _ => rfl) (I3.enter (t := tk + (binds (.ref (hh.objs.size + 1))).length) fresh_none hns hk₁)) (fun fl s' q => ?_) fun _ _ q => q.elim
  obtain ⟨B', m', led', J, k⟩ := q
  exact k (I3.leave J)

section
variable {Q : Value → Shared → Prop} {env : Env} {pos : Pos}
theorem e_attr {n attr : Str} {np : Pos} (h : wpAny (model prog w) A (eval (.Name n np) env) (fun o s₁ => wpAny (model prog w) A (getAttr o attr true) Q E s₁) E s) : wpAny (model prog w) A (eval (.Attribute (.Name n np) attr pos) env) Q E s := Attribute_name h
theorem x_setattr {o value : Expr} {attr : Str} {pos' : Pos} {rest : List Stmt} {Q : Flow → Shared → Prop}
    (h : ∀ K : Value → Shared → Prop, Hk K (fun v s₁ => wpAny (model prog w) A (eval o env) (fun ov s₂ => wpAny (model prog w) A (setAttr ov attr v) (fun _ s₃ => wpAny (model prog w) A (execs rest env) Q E s₃) E s₂) E s₁) → wpAny (model prog w) A (eval value env) K E s)
    (hs : autoParam (swapsWith value (some (.Attribute o attr pos')) pos.line env = pure false) tacR) : wpAny (model prog w) A (execs (.Assign [.Attribute o attr pos'] value pos :: rest) env) Q E s :=
  wpAny_execs_cons (plainObj_wpAny_Assign_Attribute (h _ Hk.self) hs)
theorem e_meth {n name : Str} {np apos : Pos} {args : List Expr} {pl : Sem Bool}
    (h : wpAny (model prog w) A (eval (.Name n np) env) (fun ov s₁ => wpAny (model prog w) A (getMethod ov name pl) (fun fx s₂ => wpAny (model prog w) A (callWith pos fx.1 fx.2 (backTo pos (starEach args env)) []) Q E s₂) E s₁) E s)
    (he : autoParam (eval (.Call (.Attribute (.Name n np) name apos) args [] pos) env = (do
      let ov ← eval (.Name n np) env
      standAt apos.atName
      let (f, first) ← holding [ov] (getMethod ov name pl)
      callWith pos f first (backTo pos (starEach args env)) [])) tacR) : wpAny (model prog w) A (eval (.Call (.Attribute (.Name n np) name apos) args [] pos) env) Q E s := MethodCall_ h he
theorem c_meth {a : Addr} {first : List Value} {e : Expr} {rest : List Expr} (I : St Z G B L m led s) (hB : Amb w B) (hk : keepIn (KK w) (.ref a) = true) (h : ∀ K : List Value → Shared → Prop, HkD w K (fun vs s₁ => wpAny (model prog w) A (call (.ref a) (first ++ vs)) Q E s₁) → wpAny (model prog w) A (spliced (backTo pos (starEach (e :: rest) env))) K E s) (hn : autoParam ((e :: rest).all noStar = true) tacR) :
    wpAny (model prog w) A (callWith pos (.ref a) first (backTo pos (starEach (e :: rest) env)) []) Q E s := callWith_K (I.kin hB) hk (h _ fun _ _ q1 q2 => ⟨q1, q2⟩) (noStar_he (star1 hn)) (noStar_any (star2 hn))
theorem c_meth0 {a : Addr} {first : List Value} (I : St Z G B L m led s) (hB : Amb w B) (hk : keepIn (KK w) (.ref a) = true) (h : wpAny (model prog w) A (call (.ref a) (first ++ [])) Q E s) : wpAny (model prog w) A (callWith pos (.ref a) first (backTo pos (starEach [] env)) []) Q E s := callWith_K0 (I.kin hB) hk h

def HkT (A : Around) (n : Nat) (K : Value → Shared → Prop) (F : List Value → Shared → Prop) : Prop :=
  ∀ (t : Addr) (its : List Value) (Z : Shared) (G B : Kn) (L : Addr) (m : Str → Option Value) (led : Led) s₁, its.length = n → IsT B t its → A.handled = none → St Z G B L m led s₁ → (∀ s₂, St Z G B L m led s₂ → F its s₂) → K (.ref t) s₁
theorem HkT.go {n k : Nat} {K : Value → Shared → Prop} {F : List Value → Shared → Prop} {t : Addr} {its : List Value} (h : HkT A n K F) (hA : Ar k A) (ht : IsT B t its) (I : St Z G B L m led s) (f : ∀ s₂, St Z G B L m led s₂ → F its s₂) (hn : autoParam (its.length = n) tacR) : K (.ref t) s := h _ _ _ _ _ _ _ _ _ hn ht hA.h I f
theorem x_tuple {elts : List Expr} {k : Nat} {tpos : Pos} {value : Expr} {names : List Str} {rest : List Stmt} {Q : Flow → Shared → Prop}
    (h : ∀ K : Value → Shared → Prop, HkT A names.length K (fun its s₂ => wpAny (model prog w) A (assignInOrder (names.reverse.map fun n => bindName env n) its.reverse) (fun _ s₃ => wpAny (model prog w) A (execs rest env) Q E s₃) E s₂) → wpAny (model prog w) A (eval value env) K E s)
    (hs : autoParam (swapsWithSole [.Tuple elts k tpos] value pos.line env = pure false) tacR)
    (hw : autoParam (swappedStores [.Tuple elts k tpos] value env = pure (some names)) tacR) : wpAny (model prog w) A (execs (.Assign [.Tuple elts k tpos] value pos :: rest) env) Q E s := by
  refine wpAny_execs_cons (Assign_Tuple_swapped (names := names) (wpAny_mono (h _ ?_) (fun v s₁ h₁ => h₁) fun _ _ x => x) hs hw)
  intro t its Z G B L m led s₁ hl ht hh I k
  have := unpackItems_tuple (prog := prog) (w := w) (E := E) (Q := fun items s₂ => wpAny (model prog w) A (assignInOrder (names.reverse.map fun n => bindName env n) items.reverse) (fun _ s₃ => wpAny (model prog w) A (execs rest env) Q E s₃) E s₂) hh (ht.at I)
    (fun h' hk => by
      refine k { s₁ with heap := h' } (I.keeps (t := s₁.toks) fun a o e => hk a o (fun q => ?_) e)
      subst q; rw [fresh_none] at e; cases e)
  rw [← hl]
  rw [List.size_toArray] at this
  exact this
theorem as_nil {Q : Unit → Shared → Prop} (h : Q () s) : wpAny (model prog w) A (assignInOrder [] []) Q E s := wpAny_pure h
theorem as_cons {x : Str} {names : List Str} {v : Value} {vs : List Value} {Q : Unit → Shared → Prop} (h : wpAny (model prog w) A (storeName env x v) (fun _ s₁ => wpAny (model prog w) A (assignInOrder (names.map fun n => bindName env n) vs) Q E s₁) E s) :
    wpAny (model prog w) A (assignInOrder ((x :: names).map fun n => bindName env n) (v :: vs)) Q E s := by
  show wpAny _ A (do holding vs (bindName env x v); assignInOrder (names.map fun n => bindName env n) vs) _ _ s
  refine wpAny_bind (wpAny_holding ?_)
  unfold bindName
  exact wpAny_bind (wpAny_holding (wpAny_point (wpAny_bind (wpAny_mono h (fun _ s₁ h₁ => wpAny_point h₁) fun _ _ x => x))))
end
end Mine
end

section
open PySem PySem.Calls PySem.W PyProof.Rows
namespace Mine

variable {Z : Shared} {G B : Kn} {L : Addr} {m : Str → Option Value} {led : Led} {s : Shared} {w : World} {prog : Program} {A : Around} {E : Value → Shared → Prop} {d c : Addr} {P : Obj → Prop}

section
variable {Q : Value → Shared → Prop} {env : Env} {pos : Pos} {a b : Int} {t u x : Tok} {l : Addr} {its : List Value}
theorem r_max2 (hA : A.handled = none) (I : St Z G B L m led s) (h : ∀ t s', St Z G B L m led s' → Q (.int (max a b) t) s') : wpAny (model prog w) A (call (.builtin "max") [.int a t, .int b u]) Q E s := by
  refine max_two_ints hA fun h' tk hk => ?_
  have k := h
  by_cases c : b > a
  · rw [if_pos c]; have := h u _ (I.keeps (t := tk) hk); rwa [show max a b = b by omega] at this
  · rw [if_neg c]; have := h t _ (I.keeps (t := tk) hk); rwa [show max a b = a by omega] at this
theorem r_min2 (hA : A.handled = none) (I : St Z G B L m led s) (h : ∀ t s', St Z G B L m led s' → Q (.int (min a b) t) s') : wpAny (model prog w) A (call (.builtin "min") [.int a t, .int b u]) Q E s := by
  refine min_two_ints hA fun h' tk hk => ?_
  by_cases c : b < a
  · rw [if_pos c]; have := h u _ (I.keeps (t := tk) hk); rwa [show min a b = b by omega] at this
  · rw [if_neg c]; have := h t _ (I.keeps (t := tk) hk); rwa [show min a b = a by omega] at this
theorem r_max3 {c : Int} (hA : A.handled = none) (I : St Z G B L m led s) (h : ∀ t s', St Z G B L m led s' → Q (.int (max a (max b c)) t) s') : wpAny (model prog w) A (call (.builtin "max") [.int a t, .int b u, .int c x]) Q E s := by
  refine max_three_ints hA fun h' tk hk => ?_
  have k := fun t => h t _ (I.keeps (t := tk) hk)
  by_cases h1 : b > a <;> by_cases h2 : c > b <;> by_cases h3 : c > a <;> simp only [h1, h2, h3, if_true, if_false]
  all_goals first
    | (have e : max a (max b c) = c := by omega); rw [e] at k; exact k _
    | (have e : max a (max b c) = b := by omega); rw [e] at k; exact k _
    | (have e : max a (max b c) = a := by omega); rw [e] at k; exact k _
    | omega
theorem r_abs (I : St Z G B L m led s) (h : ∀ t s', St Z G B L m led s' → Q (.int (a.natAbs : Int) t) s') : wpAny (model prog w) A (call (.builtin "abs") [.int a t]) Q E s := by
  refine call_abs_int fun u tk => ?_
  have : (if a < 0 then -a else a) = (a.natAbs : Int) := by split <;> omega
  rw [this]; exact h _ _ (I.tok _)
theorem r_intint (h : Q (.int a t) s) : wpAny (model prog w) A (call (.type "int") [.int a t]) Q E s := call_int_int h
theorem r_intbool {k : Bool} (I : St Z G B L m led s) (h : ∀ t s', St Z G B L m led s' → Q (.int (if k then 1 else 0) t) s') : wpAny (model prog w) A (call (.type "int") [.bool k]) Q E s := call_int_bool (h _ _ (I.tok _))
theorem r_pow (I : St Z G B L m led s) (hb : 0 ≤ b) (hb2 : b ≤ 1000000) (ha : a.natAbs < 2 ^ 64) (h : ∀ t s', St Z G B L m led s' → Q (.int (a ^ b.toNat) t) s') : wpAny (model prog w) A (binaryOp .Pow (.int a t) (.int b u)) Q E s :=
  pow_int_small hb hb2 ha (h _ _ (I.tok _))
theorem St.atK (I : St Z G B L m led s) {h' : Heap} {t : Nat} {c' : Nat} (hk : ∀ b o, s.heap.get? b = some o → h'.get? b = some o) (hD : h'.get? s.heap.objs.size = some { cls := .type "list", dict := none, data := .seq its.toArray c', slots := #[] }) :
    St Z G (know B s.heap.objs.size (listOf its.toArray c')) L m led { s with heap := h', toks := t } :=
  (I.keeps hk).learn hD I.freshB I.freshG I.freshL I.freshO
theorem r_listlist (I : St Z G B L m led s) (hl : s.heap.IsList l its.toArray) (hz : its.length ≤ 1000) (h : ∀ a B' s', Le B B' → IsL B' a its → St Z G B' L m led s' → Q (.ref a) s') : wpAny (model prog w) A (call (.type "list") [.ref l]) Q E s := by
  obtain ⟨o, ho, hc, n, hd⟩ := hl
  refine call_list_seq l (.inl rfl) ho hc hd (fun h' c' hk hD => ?_) (by rw [sizeLine_eq, List.size_toArray]; omega)
  exact h _ _ _ (le_know I.freshB) ⟨_, know_same, rfl, c', rfl⟩ (I.atK (t := s.toks) hk hD)
theorem r_tuptup (I : St Z G B L m led s) (ht : IsT B l its) (h : Q (.ref l) s) : wpAny (model prog w) A (call (.type "tuple") [.ref l]) Q E s := call_tuple_same (ht.at I) h

def ITs (vs : List Value) (ns : List Int) : Prop := All2 RI vs ns
theorem rc_tuples {vs us : List Value} {ds es : List Int} {b : Addr} (I : St Z G B L m led s) (hu : A.units < cLine) (hl : IsT B l vs) (hb : IsT B b us) (h1 : All2 RI vs ds) (h2 : All2 RI us es) (hsz : ds.length = es.length) : SeqAt.RcNeAt A s (.ref l) (.ref b) (!decide (ds = es)) := by
  have := SeqAt.RcNeAt.tuples (A := A) (e := fun j => decide (ds[j]? = es[j]?)) (hl.at I) (hb.at I) hu (fun j i1 i2 => ?_)
  · rw [List.size_toArray, List.size_toArray, h1.length, h2.length, ← hsz, Nat.min_self, all_range_eq _ _ hsz] at this
    simpa using this
  · have i1' : j < vs.length := by simpa using i1
    have i2' : j < us.length := by simpa using i2
    have k1 : j < ds.length := h1.length ▸ i1'
    have k2 : j < es.length := h2.length ▸ i2'
    obtain ⟨t, e1⟩ := h1.get j i1' k1
    obtain ⟨u, e2⟩ := h2.get j i2' k2
    have := SeqAt.EqAt.int_int (A := A.in1) (s := s) ds[j] t es[j] u
    have e : (ds[j] == es[j]) = decide (ds[j]? = es[j]?) := by
      rw [List.getElem?_eq_getElem k1, List.getElem?_eq_getElem k2]
      by_cases q : ds[j] = es[j] <;> simp [q]
    rw [e] at this
    simp only [List.getElem_toArray]
    rw [e1, e2]; exact this
theorem r_ne_tuples {vs us : List Value} {ds es : List Int} {b : Addr} (I : St Z G B L m led s) (hu : A.units < cLine) (hl : IsT B l vs) (hb : IsT B b us) (h1 : All2 RI vs ds) (h2 : All2 RI us es) (hsz : ds.length = es.length) (h : Q (.bool (!decide (ds = es))) s) :
    wpAny (model prog w) A (compareOp .NotEq (.ref l) (.ref b)) Q E s := rc_tuples I hu hl hb h1 h2 hsz prog w E Q h
theorem r_addT {vs us : List Value} {b : Addr} (I : St Z G B L m led s) (hl : IsT B l vs) (hb : IsT B b us) (h0 : vs ≠ []) (h1 : us ≠ []) (hz : vs.length + us.length ≤ 1000) (h : ∀ a B' s', Le B B' → IsT B' a (vs ++ us) → St Z G B' L m led s' → Q (.ref a) s') :
    wpAny (model prog w) A (binaryOp .Add (.ref l) (.ref b)) Q E s := by
  obtain ⟨n, e⟩ := hl
  obtain ⟨n2, e2⟩ := hb
  refine concat_meets ⟨_, I.kn _ _ e, rfl⟩ ⟨_, I.kn _ _ e2, rfl⟩ noFill_tuple_add seq_tuple_add PySem.F.slot_tuple_add PySem.F.entry_tuple_add (PySem.F.args_tuple_add_2 _ _)
    (tuple_addW2 l b vs.toArray us.toArray n n2 none none _ _ (by simpa using h0) (by simpa using h1) (by rw [sizeLine_eq, List.size_toArray, List.size_toArray]; omega)) ⟨I.kn _ _ e, I.kn _ _ e2, ?_⟩
  exact h _ _ _ (le_know I.freshB) ⟨0, by rw [know_same]; simp⟩ (I.pushKnow rfl)
end
end Mine
end

section
open PySem PySem.Calls PySem.W PyProof.Rows
namespace Mine

variable {Z : Shared} {G B : Kn} {L : Addr} {m : Str → Option Value} {led : Led} {s : Shared} {w : World} {prog : Program} {A : Around} {E : Value → Shared → Prop} {d c : Addr} {P : Obj → Prop}

theorem cut_upto {sl : Addr} {b n : Nat} {u : Tok} {Q : Int × Int × Nat → Shared → Prop} (hs : s.heap.IsSliceOf sl .none (.int b u) .none) (hb : b ≤ n) (h : Q ((0 : Int), 1, b) s) :
    wpAny (model prog w) A (Builtin.Slice.sliceApplied (.ref sl) (pure (n : Int))) Q E s := by
  obtain ⟨os, hos, hcs, hds⟩ := id hs
  have e1 : Builtin.Slice.sliceAdjust none (some (b : Int)) 1 (n : Int) = ((0 : Int), (b : Int)) := by
    unfold Builtin.Slice.sliceAdjust
    have h1 : ¬ ((1 : Int) < 0) := by first | lia | omega
    have h2 : ¬ ((b : Int) < 0) := by first | lia | omega
    simp only [h1, h2, if_false]
    congr 1
    first | lia | omega
  have e2 : Builtin.Slice.slicePlaces (0 : Int) (b : Int) 1 = b := by
    unfold Builtin.Slice.slicePlaces
    have h1 : (1 : Int) > 0 := by first | lia | omega
    simp only [h1, if_true, Int.ediv_one]
    split <;> first | lia | omega
  unfold Builtin.Slice.sliceApplied Builtin.Slice.sliceFields
  refine wpAny_bind (wpAny_bind (wpAny_field hos hds (x := .none) rfl (wpAny_bind (wpAny_field hos hds (x := .int b u) rfl (wpAny_bind (wpAny_field hos hds (x := .none) rfl (wpAny_pure ?_)))))))
  refine wpAny_bind (slicePart_none ?_)
  show wpAny _ _ (if ((1 : Int) == 0) = true then _ else _) _ _ s
  rw [if_neg (by decide)]
  refine wpAny_bind (slicePart_none (wpAny_bind (slicePart_int (wpAny_bind (wpAny_pure ?_)))))
  show wpAny _ _ (match Builtin.Slice.sliceAdjust none (some (b : Int)) 1 (n : Int) with | (lo, hi) => pure (lo, (1 : Int), Builtin.Slice.slicePlaces lo hi 1)) _ _ s
  rw [e1]
  show wpAny _ _ (pure ((0 : Int), (1 : Int), Builtin.Slice.slicePlaces (0 : Int) (b : Int) 1)) _ _ s
  rw [e2]
  exact wpAny_pure h

theorem tup_upto {t sl : Addr} {items : Array Value} {b : Nat} {u : Tok} {Q : Value → Shared → Prop} (ht : IsTup s.heap t items) (hs : s.heap.IsSliceOf sl .none (.int b u) .none) (hb : b < items.size)
    (h : Q (.ref s.heap.objs.size) { s with heap := s.heap.push { cls := .type "tuple", data := .seq (items.toList.take b).toArray } })
    (hsz : items.size ≤ sizeLine := by size_fits) : wpAny (model prog w) A (getItem (.ref t) (.ref sl)) Q E s := by
  have hcut : sizeOk (.seq (items.toList.take b).toArray) := by
    show (items.toList.take b).toArray.size ≤ sizeLine
    rw [List.size_toArray, List.length_take, Array.length_toList]
    first | lia | omega
  obtain ⟨os, hos, hcs, hds⟩ := id hs
  have hTs : s.TypeIs (.ref sl) "slice" := ⟨os, hos, hcs⟩
  have pk : ((List.range b).filterMap fun (k : Nat) => items[((0 : Int) + (k : Int) * 1).toNat]?).toArray = (items.toList.take b).toArray := by
    have e : (fun (k : Nat) => items[((0 : Int) + (k : Int) * 1).toNat]?) = fun k => items[0 + k]? := by
      funext k
      have : ((0 : Int) + (k : Int) * 1).toNat = 0 + k := by first | lia | omega
      rw [this]
    rw [e]
    have := pick_run items 0 b
    rw [List.filterMap_map] at this
    have e2 : ((fun x => items[x]?) ∘ fun x => 0 + x) = fun k => items[0 + k]? := rfl
    rw [e2] at this
    rw [this, List.drop_zero]
  unfold getItem
  try with_reducible refine wpAny_holding ?_
  first | refine wpAny_bind (wpAny_pure ?_) | skip
  refine wpAny_bind (wpAny_sequenceKey ht.typeIs (by decide) ?_)
  refine wpAny_bind (wpAny_callSpecial?_slot (name := Str.ofString "__getitem__") ht.typeIs slot_tuple_getitem
    (wpAny_call_entry slot_tuple_getitem ht.typeIs entry_tuple_getitem ?_ (args_tuple_getitem _ _)))
  show wpAny _ _ (Builtin.Tuple.tupleItemsOf (.ref t) >>= _) _ _ s
  refine wpAny_bind (tupleItemsOf_ ht ?_)
  refine wpAny_bind (wpAny_typeOf hTs ?_)
  rw [if_pos (by decide)]
  refine wpAny_bind (cut_upto hs (Nat.le_of_lt hb) ?_)
  have hno : ¬ (((0 : Int) == 0 && (1 : Int) == 1 && b == items.size) = true) := by
    have : (b == items.size) = false := by rw [beq_eq_false_iff_ne]; first | lia | omega
    rw [this]; simp
  show wpAny _ _ (if ((0 : Int) == 0 && (1 : Int) == 1 && b == items.size) = true then _ else _) _ _ s
  rw [if_neg hno, pk]
  first
    | exact wpAny_bind (m := Builtin.Tuple.tupleExact _) (wpAny_newObj_type (wpAny_pure ⟨_, rfl, wpAny_pure h⟩) hcut)
    | exact wpAny_bind (m := Builtin.Tuple.tupleExact _) (wpAny_newObj_type (wpAny_bind (wpAny_pure (wpAny_pure ⟨_, rfl, wpAny_pure h⟩))) hcut)
    | exact wpAny_bind (wpAny_bind (m := Builtin.Tuple.tupleExact _) (wpAny_newObj_type (wpAny_pure (wpAny_pure ⟨_, rfl, wpAny_pure h⟩)) hcut))
    | exact wpAny_bind (wpAny_bind (m := Builtin.Tuple.tupleExact _) (wpAny_newObj_type (wpAny_pure ⟨_, rfl, wpAny_pure h⟩) hcut))

section
variable {Q : Value → Shared → Prop} {env : Env} {pos : Pos} {value : Expr} {its : List Value}
def Tcut (its : List Value) (vl vu : Value) (cut : List Value) : Prop := (∃ (a : Nat) (u : Tok), vl = .int a u ∧ vu = .none ∧ 1 ≤ a ∧ a ≤ its.length ∧ cut = its.drop a) ∨ (∃ (b : Nat) (u : Tok), vl = .none ∧ vu = .int b u ∧ b < its.length ∧ cut = its.take b)
theorem e_tcut {lower upper : Option Expr} {p : Pos} (h : ∀ K : Value → Value → Value → Shared → Prop, (∀ {l its led Z G B L m vl vu s₃} cut, IsT B l its → its.length ≤ 1000 → St Z G B L m led s₃ → Tcut its vl vu cut →
        (∀ a B' s', Le B B' → IsT B' a cut → St Z G B' L m led s' → Q (.ref a) s') → K (.ref l) vl vu s₃) →
      wpAny (model prog w) A (eval value env) (fun o s₁ => wpAny (model prog w) A (evalPart lower env) (fun vl s₂ => wpAny (model prog w) A (evalPart upper env) (K o vl) E s₂) E s₁) E s) :
    wpAny (model prog w) A (eval (.Subscript value (.Slice lower upper none p) pos) env) Q E s := by
  refine Subscript_ (wpAny_mono (h _ ?_) (fun o s₁ h₁ => wpAny_Slice (wpAny_mono h₁ (fun vl s₂ h₂ => wpAny_mono h₂ (fun vu s₃ h₃ => wpAny_evalPart_none h₃) fun _ _ x => x) fun _ _ x => x)) fun _ _ x => x)
  intro l its led Z G B L m vl vu s₃ cut ht hz I hcut k
  have I1 := I.push { cls := .type "slice", data := .fields #[vl, vu, .none] }
  have ht' := ht.at I1
  have fin : ∀ its' : List Value, its' = cut → Q (.ref (s₃.heap.push { cls := .type "slice", data := .fields #[vl, vu, .none] }).objs.size) { s₃ with heap := (s₃.heap.push { cls := .type "slice", data := .fields #[vl, vu, .none] }).push { cls := .type "tuple", data := .seq its'.toArray } } := by
    rintro _ rfl
    exact k _ _ _ (le_know I1.freshB) ⟨0, know_same⟩ (I1.pushKnow rfl)
  refine tail_any (Q := Q) (IsTup.typeIs (s := { s₃ with heap := s₃.heap.push { cls := .type "slice", data := .fields #[vl, vu, .none] } }) ht') slot_tuple_getitem.lookup ?_ (by rfl)
  rcases hcut with ⟨a, u, rfl, rfl, h1, h2, rfl⟩ | ⟨b, u, rfl, rfl, h1, rfl⟩
  · exact getItem_tuple_from ht' (Heap.IsSliceOf.new ..) h1 (by rw [List.size_toArray]; exact h2) (fin _ (by simp)) (by rw [sizeLine_eq, List.size_toArray]; first | lia | omega)
  · exact tup_upto ht' (Heap.IsSliceOf.new ..) (by rw [List.size_toArray]; exact h1) (fin _ (by simp)) (by rw [sizeLine_eq, List.size_toArray]; first | lia | omega)
end
end Mine
end

section
open PySem PySem.Calls PySem.W PyProof.Rows
namespace Mine

variable {Z : Shared} {G B : Kn} {L : Addr} {m : Str → Option Value} {led : Led} {s : Shared} {w : World} {prog : Program} {A : Around} {E : Value → Shared → Prop} {d c : Addr} {P : Obj → Prop}

theorem lit_true {X Y : Prop} (h : X) : (true = true → X) ∧ (true = false → Y) := ⟨fun _ => h, fun e => (nomatch e)⟩
theorem lit_false {X Y : Prop} (h : Y) : (false = true → X) ∧ (false = false → Y) := ⟨fun e => (nomatch e), fun _ => h⟩
theorem ite_both {c : Bool} {X Y : Prop} (h : (c = true → X) ∧ (c = false → Y)) : if c then X else Y := by cases c; exact h.2 rfl; exact h.1 rfl

section
variable {env : Env} {pos : Pos} {x y : Expr} {rest : List Expr} {whole : Sem Value}
theorem t_and {Q : Bool → Shared → Prop} (h : wpAny (model prog w) A (isTrue x env (eval x env)) (fun c s' => (c = true → wpAny (model prog w) A (isTrue (.BoolOp .And rest pos) env whole) Q E s') ∧ (c = false → Q false s')) E s) : wpAny (model prog w) A (isTrue (.BoolOp .And (x :: rest) pos) env whole) Q E s :=
  isTrue_and (wpAny_mono h (fun c s' q => ite_both q) fun _ _ e => e)
theorem t_or {Q : Bool → Shared → Prop} (h : wpAny (model prog w) A (isTrue x env (eval x env)) (fun c s' => (c = true → Q true s') ∧ (c = false → wpAny (model prog w) A (isTrue (.BoolOp .Or rest pos) env whole) Q E s')) E s) : wpAny (model prog w) A (isTrue (.BoolOp .Or (x :: rest) pos) env whole) Q E s :=
  isTrue_or (wpAny_mono h (fun c s' q => ite_both q) fun _ _ e => e)
theorem e_or {Q : Value → Shared → Prop} (h : wpAny (model prog w) A (eval x env) (fun v s₁ => wpAny (model prog w) A (truthy v) (fun c s₂ => (c = true → Q v s₂) ∧ (c = false → wpAny (model prog w) A (eval (.BoolOp .Or (y :: rest) pos) env) Q E s₂)) E s₁) E s) :
    wpAny (model prog w) A (eval (.BoolOp .Or (x :: y :: rest) pos) env) Q E s := BoolOp_or (wpAny_mono h (fun v s₁ h₁ => wpAny_mono h₁ (fun c s' q => ite_both q) fun _ _ e => e) fun _ _ e => e)
theorem e_or1 {op : BoolOp} {Q : Value → Shared → Prop} (h : wpAny (model prog w) A (eval x env) Q E s) : wpAny (model prog w) A (eval (.BoolOp op [x] pos) env) Q E s := h
theorem e_ifexp {body orelse : Expr} {Q : Value → Shared → Prop} (h : wpAny (model prog w) A (isTrue x env (eval x env)) (fun c s' => (c = true → wpAny (model prog w) A (eval body env) Q E s') ∧ (c = false → wpAny (model prog w) A (eval orelse env) Q E s')) E s) :
    wpAny (model prog w) A (eval (.IfExp x body orelse pos) env) Q E s := wpAny_IfExp (wpAny_mono h (fun c s' q => ite_both q) fun _ _ e => e)

theorem x_while {test : Expr} {body stmts : List Stmt} {Q : Flow → Shared → Prop} (I : Nat → Shared → Prop) (n : Nat) (h : I n s)
    (turn : ∀ n s E', I n s → wpAny (model prog w) A (isTrue test env (eval test env)) (fun b s₂ => (b = true → wpAny (model prog w) A (execs body env) (fun f s₃ => match f with | .next | .cont => ∃ m, m < n ∧ I m s₃ | _ => False) E' s₂) ∧ (b = false → wpAny (model prog w) A (execs stmts env) Q E s₂)) E' s) :
    wpAny (model prog w) A (execs (.While test body [] pos :: stmts) env) Q E s := by
  refine wpAny_execs_cons (wpAny_While ?_)
  have key : codeAny (model prog w) A (.whileLoop test body [] env) (fun r s' => match r with | .ok .next => wpAny (model prog w) A (execs stmts env) Q E s' | .ok _ => False | .error e => cameBackBy (model prog w) A env E e s') s := by
    refine codeAny_whileLoop I (fun n s hI => wpAny_mono (turn n s _ hI) (fun b s₂ h₂ => ?_) fun _ _ e => e) n h
    cases b with
    | true =>
      refine wpAny_mono (h₂.1 rfl) (fun f s₃ h₃ => ?_) fun _ _ e => e
      cases f <;> first | exact h₃ | exact h₃.elim
    | false => exact wpAny_execs_nil (h₂.2 rfl)
  refine codeAny_mono key fun r s' hr => ?_
  rcases r with e | (_ | _ | _ | _) <;> first | exact hr | exact hr.elim
end

theorem slicePick_sub {its : List Value} {lo hi st : Option Int} : (slicePick its.toArray lo hi st).toList.length ≤ its.length ∧ ∀ v ∈ (slicePick its.toArray lo hi st).toList, v ∈ its := by
  refine ⟨?_, fun v hv => ?_⟩
  · have := slicePick_size_le its.toArray lo hi st
    simpa using this
  · unfold slicePick at hv
    simp only [List.mem_filterMap] at hv
    obtain ⟨k, _, e⟩ := hv
    simp only [List.getElem?_toArray] at e
    exact List.mem_of_getElem? e
theorem e_slice3 {env : Env} {pos : Pos} {Q : Value → Shared → Prop} {value step : Expr} {p : Pos} (h : ∀ K : Value → Value → Shared → Prop, (∀ {l : Addr} {its : List Value} {st : Int} {led : Led} {Z : Shared} {G B : Kn} {L : Addr} {m : Str → Option Value} {vk s₃}, s₃.heap.IsList l its.toArray → its.length ≤ 1000 → IsPart vk (some st) → st ≠ 0 → St Z G B L m led s₃ → (∀ a its' s', its'.length ≤ its.length → (∀ v ∈ its', v ∈ its) → St Z G B L m ((a, LP its') :: led) s' → Q (.ref a) s') → K (.ref l) vk s₃) →
      wpAny (model prog w) A (eval value env) (fun o s₁ => wpAny (model prog w) A (eval step env) (K o) E s₁) E s) :
    wpAny (model prog w) A (eval (.Subscript value (.Slice none none (some step) p) pos) env) Q E s := by
  refine Subscript_ (wpAny_mono (h _ ?_) (fun o s₁ h₁ => wpAny_Slice (wpAny_evalPart_none (wpAny_evalPart_none (wpAny_evalPart_some (wpAny_mono h₁ (fun vk s₃ h₃ => h₃) fun _ _ x => x))))) fun _ _ x => x)
  intro l its st led Z G B L m vk s₃ hl hz pk h0 I k
  obtain ⟨k1, k2⟩ := slicePick_sub (its := its) (lo := none) (hi := none) (st := some st)
  have I' := (I.push { cls := .type "slice", data := .fields #[.none, .none, vk] }).pushOwn (o := { cls := .type "list", data := .seq (slicePick its.toArray none none (some st)) }) (P := LP (slicePick its.toArray none none (some st)).toList) rfl ⟨0, by simp [PySem.W.listOf]⟩
  have hl' := hl.push { cls := .type "slice", data := .fields #[.none, .none, vk] }
  exact tail_any (Heap.IsList.typeIs (s := { s₃ with heap := s₃.heap.push { cls := .type "slice", data := .fields #[.none, .none, vk] } }) hl') slot_list_getitem.lookup
    (wpAny_getItem_list_slice hl' (Heap.IsSliceOf.new ..) .none .none pk (fun e => h0 (by injection e)) (k _ _ _ k1 k2 I') (by rw [sizeLine_eq, List.size_toArray]; first | lia | omega)) (by rfl)
end Mine
end

section
open PySem PySem.Calls PySem.W PyProof.Rows
namespace Mine

variable {Z : Shared} {G B : Kn} {L : Addr} {m : Str → Option Value} {led : Led} {s : Shared} {w : World} {prog : Program} {A : Around} {E : Value → Shared → Prop} {d c : Addr} {P : Obj → Prop}

theorem St.freezeL {its : List Value} (I : St Z G B L m ((d, LP its) :: led) s) : ∃ B', Le B B' ∧ IsL B' d its ∧ St Z G B' L m led s := by
  obtain ⟨B', o, l, e, ⟨n, rfl⟩, J⟩ := I.freeze
  exact ⟨B', l, ⟨_, e, rfl, n, rfl⟩, J⟩
theorem All2.of_mem {α β : Type} {R : α → β → Prop} {l : List α} (h : ∀ v ∈ l, ∃ b, R v b) : ∃ r, All2 R l r := by
  induction l with
  | nil => exact ⟨[], .nil⟩
  | cons a l ih =>
    obtain ⟨b, hb⟩ := h a (.head _)
    obtain ⟨r, hr⟩ := ih fun v hv => h v (.tail _ hv)
    exact ⟨b :: r, .cons hb hr⟩
theorem All2.mem {α β : Type} {R : α → β → Prop} {l : List α} {r : List β} (h : All2 R l r) : ∀ v ∈ l, ∃ b ∈ r, R v b := by
  induction h with
  | nil => intro v hv; cases hv
  | cons hd _ ih =>
    intro v hv
    rcases List.mem_cons.mp hv with rfl | hv
    · exact ⟨_, .head _, hd⟩
    · obtain ⟨b, hb, q⟩ := ih v hv
      exact ⟨b, .tail _ hb, q⟩

theorem e_dict {env : Env} {keys : List (Option Expr)} {values : List Expr} {pos : Pos} {Q : Value → Shared → Prop} (I : St Z G B L m led s)
    (h : ∀ a s₀ (K : List (Value × Value) → Shared → Prop), (∀ {vs s₁ B' m' led'} kvs, Carries (strKind prog w) vs kvs → St Z G B' L m' ((a, DP prog w []) :: led') s₁ →
      (∀ s', St Z G B' L m' ((a, DP prog w (merged [] kvs)) :: led') s' → Q (.ref a) s') → K vs s₁) → St Z G B L m ((a, DP prog w []) :: led) s₀ → wpAny (model prog w) A (evalPairs (pairTrees keys values env pos)) K E s₀)
    (hshape : (evalEachOpt keys env).zip ((evalEach values env).map fun v => do let x ← v; standAt pos; pure x) = (pairTrees keys values env pos).map fun p => (some p.1, p.2)) (h0 : pairTrees keys values env pos ≠ []) (hlen : (pairTrees keys values env pos).length ≤ 15) :
    wpAny (model prog w) A (eval (.Dict keys values pos) env) Q E s := by
  have hD : DP prog w [] ({ cls := .type "dict", data := .dict #[] } : Obj) := by
    have := Heap.DictOf.new (knd := strKind prog w) (h := s.heap)
    obtain ⟨o, es, ep, e, a, b, c, f, g⟩ := this
    rw [Heap.get?_push_size _ rfl] at e
    cases e
    exact ⟨es, ep, a, b, c, f, g⟩
  refine wpAny_Dict_pairs (knd := strKind prog w) hshape h0 hlen (wpAny_mono (h s.heap.objs.size _ _ ?_ (I.pushOwn rfl hD)) (fun vs s₁ q => q) fun _ _ e => e)
  intro vs s₁ B' m' led' kvs hc I' k
  refine ⟨kvs, hc, I'.headD, fun h' hd hs => k _ ?_⟩
  obtain ⟨o, es, ep, e, a, b, c, f, g⟩ := hd
  exact I'.chg hs e ⟨es, ep, a, b, c, f, g⟩
end Mine
end

section
open PySem PySem.Calls PySem.W PyProof.Rows
namespace Mine

variable {Z : Shared} {G B : Kn} {L : Addr} {m : Str → Option Value} {led : Led} {s : Shared} {w : World} {prog : Program} {A : Around} {E : Value → Shared → Prop} {d c : Addr} {P : Obj → Prop}

theorem r_setlast {its : List Value} {x v : Value} {t : Tok} {Q : Unit → Shared → Prop} (I : St Z G B L m ((d, LP (its ++ [x])) :: led) s) (h : ∀ s', St Z G B L m ((d, LP (its ++ [v])) :: led) s' → Q () s') :
    wpAny (model prog w) A (setItem (.ref d) (.int (-1) t) v) Q E s := by
  obtain ⟨o, ho, n, ho'⟩ := I.head
  have hl : s.heap.IsList d (its ++ [x]).toArray := ⟨o, ho, by rw [ho'], n, by rw [ho']⟩
  have hd : o.data = .seq (its ++ [x]).toArray n := by rw [ho']
  have hc : o.cls = .type "list" := by rw [ho']
  have hsz : (its ++ [x]).toArray.size = its.length + 1 := by simp
  unfold setItem
  try with_reducible refine wpAny_holding ?_
  first | refine wpAny_bind (wpAny_pure ?_) | skip
  refine wpAny_bind (wpAny_sequenceKey hl.typeIs (by decide) ?_)
  refine wpAny_bind (wpAny_callSpecial?_slot (name := Str.ofString "__setitem__") hl.typeIs slot_list_setitem
    (wpAny_call_entry slot_list_setitem hl.typeIs entry_list_setitem ?_ (args_list_setitem _ _ _)))
  show wpAny _ _ (Builtin.List.listSubscript? (.int (-1) t) >>= _) _ _ s
  refine wpAny_bind (wpAny_listSubscript_int (fitsIndex_neg (by decide) (by decide)) ?_)
  have hidx := seqIndex_neg (k := -1) (n := (its ++ [x]).toArray.size) (by decide) (by rw [hsz]; first | lia | omega)
  have hj : ((-1 : Int) + ((its ++ [x]).toArray.size : Int)).toNat = its.length := by rw [hsz]; first | lia | omega
  rw [hj] at hidx
  show wpAny _ _ ((Builtin.List.listItems (.ref d) >>= fun xs => pure ((seqIndex? (-1) xs.size).bind fun i => xs[i]?.map (i, ·))) >>= _) _ _ s
  refine wpAny_bind (wpAny_bind ?_)
  show wpAny _ _ (seqItems? (.ref d) >>= _) _ _ s
  refine wpAny_bind (wpAny_seqItems ho hd (wpAny_pure (wpAny_pure ?_)))
  have hx : (its ++ [x]).toArray[its.length]? = some x := by simp
  rw [hidx]
  simp only [Option.bind_some, hx, Option.map_some]
  show wpAny _ _ (setSeqItemAt d its.length v >>= _) _ _ s
  obtain ⟨n', hd'⟩ := Obj.data_mapSeq hd (·.setIfInBounds its.length v)
  have e1 : (its ++ [x]).toArray.setIfInBounds its.length v = (its ++ [v]).toArray := by
    apply Array.ext'
    simp
  have e2 : Obj.mapSeq (·.setIfInBounds its.length v) o = listOf (its ++ [v]).toArray n' := by
    rw [ho'] at hd' ⊢
    rw [← e1]
    have : Obj.mapSeq (·.setIfInBounds its.length v) (listOf (its ++ [x]).toArray n) = { (listOf (its ++ [x]).toArray n) with data := (Obj.mapSeq (·.setIfInBounds its.length v) (listOf (its ++ [x]).toArray n)).data } := by rfl
    rw [this, hd']
  have hfin : (s.heap.update d (Obj.mapSeq (·.setIfInBounds its.length v))).get? d = some (listOf (its ++ [v]).toArray n') := by
    rw [Heap.get?_update_self _ ho (Obj.isFreed_of_seq hd'), e2]
  have J := I.chg (t := s.toks) (P' := LP (its ++ [v])) (Heap.SameBut.update ..) hfin ⟨n', rfl⟩
  refine wpAny_bind (wpAny_setSeqItemAt ho hd ?_)
  first
    | exact wpAny_bind (wpAny_pure (wpAny_pure ⟨.none, rfl, wpAny_pure (h _ J)⟩))
    | exact wpAny_pure ⟨.none, rfl, wpAny_pure (h _ J)⟩
theorem picked_le {b : Bt} {lo hi : Option Int} : (KBy.picked b lo hi).size ≤ b.size := KBc.size_picked_le b lo hi
theorem e_sub {env : Env} {value slice : Expr} {pos : Pos} {Q : Value → Shared → Prop} (h : wpAny (model prog w) A (eval value env) (fun o s₁ => wpAny (model prog w) A (eval slice env) (fun i s₂ => wpAny (model prog w) A (subscriptTail value slice o i) Q E s₂) E s₁) E s) (hs : autoParam (plainSub slice = true) tacR) :
    wpAny (model prog w) A (eval (.Subscript value slice pos) env) Q E s := Subscript_ h
def CellAt (B : Kn) (a : Addr) (v : Value) : Prop := ∃ o, B a = some o ∧ o.data = .cell (some v)
theorem CellAt.mono {B B' : Kn} {a : Addr} {v : Value} (h : CellAt B a v) (l : Le B B') : CellAt B' a v := let ⟨o, a, b⟩ := h; ⟨o, l _ _ a, b⟩
theorem ev_cellAt {env : Env} {x : Str} {pos : Pos} {v : Value} {a : Addr} {Q : Value → Shared → Prop} (I : St Z G B L m led s) (hc : env.cells.lookup x = some a) (ho : CellAt B a v) (h : Q v s) (hk : autoParam (okN .cell env x = true) tacR) :
    wpAny (model prog w) A (eval (.Name x pos) env) Q E s := let ⟨_, h1, h2⟩ := ho; ev_cell I hc h1 h2 h hk
theorem x_ifm {env : Env} {test : Expr} {body orelse rest : List Stmt} {pos : Pos} {Q : Flow → Shared → Prop} (M : Shared → Prop)
    (h : ∀ (N : Flow → Shared → Prop) (K : Bool → Shared → Prop), (∀ s', M s' → N .next s') → Hk K (fun b s₂ => (b = true → wpAny (model prog w) A (execs body env) N E s₂) ∧ (b = false → wpAny (model prog w) A (execs orelse env) N E s₂)) → wpAny (model prog w) A (isTrue test env (eval test env)) K E s)
    (k : ∀ s', M s' → wpAny (model prog w) A (execs rest env) Q E s') :
    wpAny (model prog w) A (execs (.If test body orelse pos :: rest) env) Q E s := by
  have h := h (fun f s' => f = .next ∧ M s') _ (fun _ q => ⟨rfl, q⟩) Hk.self
  refine x_if fun K hK => (wpAny_mono h (fun b s₂ q => hK _ _ ⟨fun hb => ?_, fun hb => ?_⟩) fun _ _ e => e)
  · rw [execs_app]
    exact wpAny_bind (wpAny_mono (q.1 hb) (fun f s' r => by obtain ⟨rfl, r⟩ := r; exact k s' r) fun _ _ e => e)
  · rw [execs_app]
    exact wpAny_bind (wpAny_mono (q.2 hb) (fun f s' r => by obtain ⟨rfl, r⟩ := r; exact k s' r) fun _ _ e => e)
theorem cutB {t : Sem Bool} {K : Bool → Shared → Prop} (M : Bool → Shared → Prop) (h : ∀ K : Bool → Shared → Prop, (∀ v s', M v s' → K v s') → wpAny (model prog w) A t K E s) (k : ∀ v s₁, M v s₁ → K v s₁) : wpAny (model prog w) A t K E s := h K k
theorem cutP {t : Sem Value} {K : Value → Shared → Prop} (M : Value → Shared → Prop) (h : ∀ K : Value → Shared → Prop, (∀ v s', M v s' → K v s') → wpAny (model prog w) A t K E s) (k : ∀ v s₁, M v s₁ → K v s₁) : wpAny (model prog w) A t K E s := h K k
theorem x_whilem {env : Env} {test : Expr} {body stmts : List Stmt} {pos : Pos} {Q : Flow → Shared → Prop} (I : Nat → Shared → Prop) (M : Shared → Prop) (n : Nat) (h : I n s)
    (turn : ∀ n s E' (N : Flow → Shared → Prop) (K : Bool → Shared → Prop), (∀ s₃ m, m < n → I m s₃ → N .next s₃) → Hk K (fun b s₂ => (b = true → wpAny (model prog w) A (execs body env) N E' s₂) ∧ (b = false → M s₂)) → I n s → wpAny (model prog w) A (isTrue test env (eval test env)) K E' s)
    (k : ∀ s', M s' → wpAny (model prog w) A (execs stmts env) Q E s') :
    wpAny (model prog w) A (execs (.While test body [] pos :: stmts) env) Q E s :=
  x_while I n h fun n s E' hI => wpAny_mono (turn n s E' (fun f s₃ => match f with | .next | .cont => ∃ m, m < n ∧ I m s₃ | _ => False) _ (fun _ m q1 q2 => ⟨m, q1, q2⟩) Hk.self hI) (fun b s₂ q => ⟨q.1, fun e => k _ (q.2 e)⟩) fun _ _ e => e
theorem ld_local {env : Env} {x : Str} {v : Value} {Q : Value → Shared → Prop} (I : St Z G B L m led s) (ho : okN .local env x = true) (hv : m x = some v) (h : Q v s) (hL : autoParam (env.locals = L) tacR) :
    wpAny (model prog w) A (loadName env x) Q E s := wpAny_loadName_local (okN_kind ho) (okN_of ho) (hL ▸ I.ns) hv h
theorem St.atP {its : List Value} (I : St Z G B L m led s) (h : (d, LP its) ∈ led) : s.heap.IsList d its.toArray := let ⟨o, e, n, q⟩ := I.own _ h; ⟨o, e, by rw [q], n, by rw [q]⟩
theorem St.up1 {p q r : Addr × (Obj → Prop)} (I : St Z G B L m (p :: q :: r :: led) s) : St Z G B L m (p :: r :: q :: led) s := I.perm (.cons _ (.swap _ _ _))
theorem St.clear (I : St Z G B L m led s) : St Z G B L m [] s := by
  induction led with
  | nil => exact I
  | cons p r ih => exact ih I.drop
theorem x_ifr {env : Env} {test : Expr} {body rest : List Stmt} {pos : Pos} {Q : Flow → Shared → Prop} (M : Shared → Prop)
    (h : ∀ K : Bool → Shared → Prop, Hk K (fun b s₂ => (b = true → wpAny (model prog w) A (execs (body ++ rest) env) Q E s₂) ∧ (b = false → M s₂)) → wpAny (model prog w) A (isTrue test env (eval test env)) K E s)
    (k : ∀ s', M s' → wpAny (model prog w) A (execs rest env) Q E s') :
    wpAny (model prog w) A (execs (.If test body [] pos :: rest) env) Q E s :=
  x_if fun K hK => (wpAny_mono (h _ Hk.self) (fun b s₂ q => hK _ _ ⟨q.1, fun hb => k _ (q.2 hb)⟩) fun _ _ e => e)
theorem St.up2 {p q r : Addr × (Obj → Prop)} (I : St Z G B L m (p :: q :: r :: led) s) : St Z G B L m (q :: r :: p :: led) s := I.perm ((List.Perm.swap _ _ _).trans (.cons _ (.swap _ _ _)))
theorem St.dn2 {p q r : Addr × (Obj → Prop)} (I : St Z G B L m (q :: r :: p :: led) s) : St Z G B L m (p :: q :: r :: led) s := I.perm ((List.Perm.cons _ (.swap _ _ _)).trans (.swap _ _ _))
end Mine
end

section
open PySem PySem.Calls PySem.W PyProof.Rows
open MeetsSeq MeetsSeq2 MeetsSeq3 SeqRoads2 SeqAt
namespace Mine

def lexlt : List Int → List Int → Bool
  | a :: as, b :: bs => if a = b then lexlt as bs else decide (a < b)
  | _, _ => false

theorem int_ltAt {A : Around} {s : Shared} {a b : Int} {t u : Tok} {prog : Program} {w : World} {E : Value → Shared → Prop} {Q : Value → Shared → Prop} (h : Q (.bool (decide (a < b))) s) : wpAny (model prog w) A (richCompare .Lt (.int a t) (.int b u)) Q E s :=
  richCompare_gives (op := .Lt) (typeIs_int s _ t) (typeIs_int s _ u) PySem.F.slot_int_lt PySem.F.entry_int_lt (PySem.F.args_int_lt_2 _ _) (gives_int_lt _ _ t u) (fun x => nomatch x) h

theorem tuple_ltInts (l b : Addr) (vs us : List Value) (ds es : List Int) (n n2 : Nat) (h1 : All2 RI vs ds) (h2 : All2 RI us es) (hl : ds.length = es.length) :
    Meets (Builtin.«tuple.__lt__» ⟨[.ref l, .ref b], []⟩)
      (fun A R s => s.heap.get? l = some { cls := .type "tuple", data := .seq vs.toArray n } ∧ s.heap.get? b = some { cls := .type "tuple", data := .seq us.toArray n2 } ∧
        R (.ok (.ret (.bool (lexlt ds es)))) s) :=
  .of_wp fun prog w A R s h => by
    obtain ⟨hp, g, d, tk, os⟩ := s; obtain ⟨hl', hb, h⟩ := h
    have f2 := AutoSeq1.sub_tuple_tuple
    have e1 := h1.length
    have e2 := h2.length
    have hZ : (vs.zip us).length = ds.length := by simp; omega
    wp_walk using AutoSeq1.wpAny_loadPart' hl', AutoSeq1.wpAny_loadPart' hb, wpAny_forIn_list _ (fun rest b s' => b.1 = none ∧ s' = ⟨hp, g, d, tk, os⟩ ∧ ∃ i, rest = (vs.zip us).drop i ∧
      R (.ok (.ret (.bool (lexlt (ds.drop i) (es.drop i))))) ⟨hp, g, d, tk, os⟩) _
    case turn =>
      rintro ⟨y, x⟩ rest b s' ⟨hb', rfl, i, hz, hR⟩
      have hlt : i < (vs.zip us).length := by
        rcases Nat.lt_or_ge i (vs.zip us).length with h' | h'
        · exact h'
        · rw [List.drop_of_length_le h'] at hz; cases hz
      have i1 : i < vs.length := by omega
      have i2 : i < us.length := by omega
      have k1 : i < ds.length := by omega
      have k2 : i < es.length := by omega
      rw [List.drop_eq_getElem_cons hlt] at hz
      injection hz with hyx hrest
      have hy : y = vs[i] := by have := congrArg Prod.fst hyx; simpa using this
      have hx : x = us[i] := by have := congrArg Prod.snd hyx; simpa using this
      obtain ⟨t, q1⟩ := h1.get i i1 k1
      obtain ⟨u, q2⟩ := h2.get i i2 k2
      rw [q1] at hy
      rw [q2] at hx
      subst hy hx
      rw [List.drop_eq_getElem_cons k1, List.drop_eq_getElem_cons k2, lexlt] at hR
      refine wpAny_bind (SeqAt.EqAt.int_int (A := A.in1) (s := ⟨hp, g, d, tk, os⟩) ds[i] t es[i] u prog w _ _ ?_)
      by_cases hy : ds[i] = es[i]
      · rw [if_pos hy] at hR
        have : (ds[i] == es[i]) = true := by simp [hy]
        rw [this]
        wp_walk
        exact ⟨rfl, rfl, i + 1, hrest, hR⟩
      · rw [if_neg hy] at hR
        have : (ds[i] == es[i]) = false := by simp [hy]
        rw [this]
        rw [if_pos (by decide)]
        refine wpAny_bind (wpAny_rule (wpAny_bind (int_ltAt ?_)))
        wp_walk
        exact ⟨_, rfl, hR⟩
    case fin =>
      rintro ⟨b1, b2⟩ s' ⟨hb', rfl, i, hz, hR⟩
      simp only at hb'
      subst hb'
      have hge : ds.length ≤ i := by
        rcases Nat.lt_or_ge i (vs.zip us).length with h' | h'
        · rw [List.drop_eq_getElem_cons h'] at hz; cases hz
        · omega
      rw [List.drop_of_length_le hge] at hR
      wp_walk
      exact ⟨_, rfl, by simpa [Builtin.Tuple.tupleCompareSizes, lexlt, e1, e2, hl] using hR⟩
    case h =>
      exact ⟨rfl, rfl, 0, by simp, by simpa using h⟩
end Mine
end

section
open PySem PySem.Calls PySem.W PyProof.Rows
namespace Mine

variable {Z : Shared} {G B : Kn} {L : Addr} {m : Str → Option Value} {led : Led} {s : Shared} {w : World} {prog : Program} {A : Around} {E : Value → Shared → Prop} {d c : Addr} {P : Obj → Prop}

theorem rc_lt_tuples {l b : Addr} {vs us : List Value} {ds es : List Int} {Q : Value → Shared → Prop} (I : ∀ a o, B a = some o → s.heap.get? a = some o) (hu : A.units < cLine) (hl : IsT B l vs) (hb : IsT B b us) (h1 : All2 RI vs ds) (h2 : All2 RI us es) (hz : ds.length = es.length) (h : Q (.bool (lexlt ds es)) s) :
    wpAny (model prog w) A (richCompare .Lt (.ref l) (.ref b)) Q E s := by
  obtain ⟨n, e1⟩ := hl
  obtain ⟨n2, e2⟩ := hb
  have e1 := I _ _ e1
  have e2 := I _ _ e2
  exact richCompare_meets_room (op := .Lt) ⟨_, e1, rfl⟩ ⟨_, e2, rfl⟩ PySem.F.slot_tuple_lt PySem.F.entry_tuple_lt (PySem.F.args_tuple_lt_2 _ _) (tuple_ltInts l b vs us ds es n n2 h1 h2 hz)
    ⟨e1, e2, show Value.bool (lexlt ds es) ≠ Value.notImplemented ∧ Q (.bool (lexlt ds es)) s from ⟨(fun x => nomatch x), h⟩⟩ hu

theorem r_ne_nil {l b : Addr} {its : List Value} {Q : Value → Shared → Prop} (hu : A.units < cLine) (hl : s.heap.IsList l its.toArray) (hb : s.heap.IsList b ([] : List Value).toArray) (h : Q (.bool (!decide (its = []))) s) : wpAny (model prog w) A (compareOp .NotEq (.ref l) (.ref b)) Q E s := by
  by_cases q : its = []
  · subst q
    have := SeqAt.RcNeAt.lists (A := A) (e := fun _ => true) hl hb rfl hu (fun j i1 i2 => absurd i1 (by simp))
    exact this prog w E Q h
  · have e : (!decide (its = [])) = true := by simp [q]
    rw [e] at h
    exact SeqAt.RcNeAt.lists_lengths hl hb (by simp [q]) hu prog w E Q h
def bestOf {α : Type} (lt : α → α → Bool) (b : α) : List α → α
  | [] => b
  | x :: r => bestOf lt (if lt x b then x else b) r

def Cmps (prog : Program) (w : World) (A : Around) {α : Type} (B : Kn) (Rv : Value → α → Prop) (lt : α → α → Bool) : Prop :=
  ∀ x y vx vy (s : Shared) (Q : Value → Shared → Prop) (E : Value → Shared → Prop), Rv vx x → Rv vy y → (∀ a o, B a = some o → s.heap.get? a = some o) → Q (.bool (lt x y)) s → wpAny (model prog w) A (richCompare .Lt vx vy) Q E s

theorem min_turns {α : Type} {Rv : Value → α → Prop} {lt : α → α → Bool} {X T : Addr} {vs : List Value} {ds : List α} {S : Nat → Heap → Prop} {R : Result → Shared → Prop} (W : Itr prog w A.in1 X B vs.length (fun i v => vs[i]? = some v) S) (hv : All2 Rv vs ds) (hc : Cmps prog w A.in1 B Rv lt) :
    ∀ (k j : Nat) (s : Shared) (vb : Value) (b : α), vs.length - j = k → j ≤ vs.length → Rv vb b → S j s.heap → St Z G B L m ((T, LP [vb, vb]) :: (X, anyO) :: led) s →
    (∀ v s', Rv v (bestOf lt b (ds.drop j)) → St Z G B L m led s' → R (.ok (.ret v)) s') → codeAny (model prog w) A (.builtin "min.loop" ⟨[.ref X, .none, .ref T], []⟩) R s := by
  intro k
  have hname : (toString "min" ++ toString ".loop" : String) = "min.loop" := by decide
  induction k with
  | zero =>
    intro j s vb b hk hj hb hS I h
    have hjn : j = vs.length := by omega
    subst hjn
    obtain ⟨o, ho, n, rfl⟩ := I.head
    refine codeAny_builtin PySem.F.entry_min_loop ?_
    rw [Around.under_plainId PySem.F.plain_min_loop _]
    show wpAny _ A.in1 (seqItems? (.ref T) >>= _) _ _ s
    refine wpAny_bind (wpAny_seqItems ho rfl ?_)
    show wpAny _ A.in1 (tryCatch (pyNext (.ref X)) _ >>= _) _ _ s
    refine wpAny_bind (wpAny_tryCatch (W.done s _ _ hS fun h' tk hk' => ?_))
    have I1 := I.swap.lost (t := tk) hk'
    obtain ⟨o, ho, n, rfl⟩ := I1.head
    show wpAny _ A.in1 (updateSeq T (fun _ => #[]) >>= _) _ _ _
    refine wpAny_bind ?_
    refine wpAny_updateSeq ho rfl (wpAny_bind (wpAny_letGo (wpAny_pure ?_)))
    refine h vb _ ?_ (I1.lost (t := tk) fun b o hb e => (Heap.get?_update_other _ _ (Ne.symm hb)).trans e)
    rw [List.drop_of_length_le (by rw [hv.length]; exact Nat.le_refl _)]
    exact hb
  | succ k ih =>
    intro j s vb b hk hj hb hS I h
    have hlt : j < vs.length := by omega
    obtain ⟨o, ho, n, rfl⟩ := I.head
    refine codeAny_builtin PySem.F.entry_min_loop ?_
    rw [Around.under_plainId PySem.F.plain_min_loop _]
    show wpAny _ A.in1 (seqItems? (.ref T) >>= _) _ _ s
    refine wpAny_bind (wpAny_seqItems ho rfl ?_)
    show wpAny _ A.in1 (tryCatch (pyNext (.ref X)) _ >>= _) _ _ s
    refine wpAny_bind (wpAny_tryCatch (W.item j s _ _ hlt hS fun v h' tk hP hS' hk' => ?_))
    obtain ⟨o', ho'⟩ := W.obj _ _ hS'
    have I1 := I.swap.chgE (t := tk) (P' := anyO) hk' ho' trivial
    obtain ⟨x, hx, hxv⟩ := hv.get?L hP
    have hd : ds.drop j = x :: ds.drop (j + 1) := by
      obtain ⟨hj', e⟩ := List.getElem?_eq_some_iff.mp hx
      rw [List.drop_eq_getElem_cons hj', e]
    rw [hd, bestOf] at h
    show wpAny _ A.in1 (tryCatch (holding [v, v] (richCompare .Lt v vb >>= _)) _ >>= _) _ _ _
    refine wpAny_bind (wpAny_tryCatch (wpAny_holding (wpAny_bind (hc x b v vb _ _ _ hxv hb (fun a o e => I1.kn a o e) ?_))))
    refine wpAny_bind (wpAny_holding (wpAny_truthy_bool ?_))
    refine wpAny_bind (wpAny_letGo (wpAny_pure ?_))
    cases hq : lt x b with
    | true =>
      rw [hq] at h
      simp only [if_true] at h ⊢
      obtain ⟨o, ho, n, rfl⟩ := I1.swap.head
      refine wpAny_bind ?_
      refine wpAny_updateSeq ho rfl (wpAny_bind (wpAny_letGo ?_))
      rw [hname]
      have I2 := I1.swap.chg (t := tk) (P' := LP [v, v]) (o' := Obj.mapSeq (fun _ => #[v, v]) (PySem.W.listOf #[vb, vb] n)) (Heap.SameBut.update ..) (Heap.get?_update_self _ ho rfl) ⟨_, rfl⟩
      refine wpAny_pure ⟨plainId_quiet PySem.F.plain_min_loop _, ih (j + 1) _ v x (by omega) hlt hxv (W.frame _ _ _ hS' (fun o e => ?_) fun a o e => I2.kn a o e) I2 h⟩
      refine (Heap.get?_update_other _ _ fun q => ?_).trans e
      have := I1.nd
      simp at this
      exact this.1.1 q.symm
    | false =>
      rw [hq] at h
      simp only [Bool.false_eq_true, if_false] at h ⊢
      refine wpAny_bind (wpAny_letGo ?_)
      rw [hname]
      exact wpAny_pure ⟨plainId_quiet PySem.F.plain_min_loop _, ih (j + 1) _ vb b (by omega) hlt hb hS' I1.swap h⟩

theorem r_min {α : Type} {Rv : Value → α → Prop} {lt : α → α → Bool} {l : Addr} {v0 : Value} {vs : List Value} {d0 : α} {ds : List α} {Q : Value → Shared → Prop} (hh : A.handled = none) (I : St Z G B L m led s) (hl : IsL B l (v0 :: vs)) (h0 : Rv v0 d0) (hv : All2 Rv vs ds)
    (hc : ∀ B', Le B B' → Cmps prog w A.in1 B' Rv lt) (h : ∀ v s', Rv v (bestOf lt d0 ds) → St Z G B L m led s' → Q v s') : wpAny (model prog w) A (call (.builtin "min") [.ref l]) Q E s := by
  have hname : (toString "min" ++ toString ".loop" : String) = "min.loop" := by decide
  refine call_function_tree PySem.F.kind_min PySem.F.plain_min PySem.F.entry_min (PySem.F.args_min1 _) ?_
  show wpAny _ A.in1 (Builtin.Builtins.bindParams "min" ["key", "default"] 0 ⟨[], []⟩ >>= _) _ _ s
  refine wpAny_bind (wpAny_of_eq (show Builtin.Builtins.bindParams "min" ["key", "default"] 0 ⟨[], []⟩ = pure [none, none] from rfl) ?_)
  refine wpAny_bind (wpAny_pure ?_)
  refine wpAny_bind (pi_list (A := A.in1) hh I hl fun X s₂ W I hS => ?_)
  refine wpAny_bind (wpAny_newObj_type ?_)
  have I1 := I.pushOwn (o := { cls := .type "list", data := .seq #[] }) (P := LP []) rfl ⟨0, rfl⟩
  have hS1 := W.frame 0 _ (s₂.heap.push { cls := .type "list", data := .seq #[] }) hS (fun o e => Heap.get?_push_of_some _ e) (fun a o e => I1.kn a o e)
  have hT : (s₂.heap.push { cls := .type "list", data := .seq #[] }).get? s₂.heap.objs.size = some { cls := .type "list", data := .seq #[] } := Heap.get?_push_size _ rfl
  rw [hname]
  refine wpAny_pure ⟨plainId_quiet PySem.F.plain_min_loop _, ?_⟩
  refine codeAny_builtin PySem.F.entry_min_loop ?_
  rw [Around.under_plainId PySem.F.plain_min_loop _]
  show wpAny _ A.in1 (seqItems? (.ref s₂.heap.objs.size) >>= _) _ _ _
  refine wpAny_bind (wpAny_seqItems hT rfl ?_)
  show wpAny _ A.in1 (tryCatch (pyNext (.ref X)) _ >>= _) _ _ _
  refine wpAny_bind (wpAny_tryCatch (W.item 0 _ _ _ (by simp) hS1 fun v h' tk hP hS' hk' => ?_))
  obtain ⟨o', ho'⟩ := W.obj _ _ hS'
  have I2 := (I1.swap.chgE (t := tk) (P' := anyO) hk' ho' trivial).swap
  have ev : v0 = v := by simpa using (show _ = _ from hP)
  subst ev
  obtain ⟨o, ho, n, rfl⟩ := I2.head
  show wpAny _ A.in1 (updateSeq s₂.heap.objs.size (fun _ => #[v0, v0]) >>= _) _ _ _
  refine wpAny_bind ?_
  refine wpAny_updateSeq ho rfl ?_
  rw [hname]
  have I3 := I2.chg (t := tk) (P' := LP [v0, v0]) (o' := Obj.mapSeq (fun _ => #[v0, v0]) (PySem.W.listOf #[] n)) (Heap.SameBut.update ..) (Heap.get?_update_self _ ho rfl) ⟨_, rfl⟩
  refine wpAny_pure ⟨plainId_quiet PySem.F.plain_min_loop _, min_turns (T := s₂.heap.objs.size) W (.cons h0 hv) (hc B Le.rfl) _ 1 _ v0 d0 rfl (by simp) h0 (W.frame _ _ _ hS' (fun o e => ?_) fun a o e => I3.kn a o e) I3 fun v s' hb J => ?_⟩
  · refine (Heap.get?_update_other _ _ fun q => ?_).trans e
    have := I2.nd
    simp at this
    exact this.1.1 q
  · exact h v s' hb J
end Mine
end

section
open PySem PySem.Calls PySem.W PyProof.Rows
namespace Mine
set_option linter.unusedVariables false
local macro_rules | `(tactic| walk_at "lk") => `(tactic| first | assumption | with_reducible exact upd_same | (with_reducible refine upd_nx (by decide) ?_; walk_at "lk") | with_unfolding_all refine Eq.trans (‹∀ y, _ = List.lookup y _› _) rfl | with_unfolding_all refine Eq.trans (‹∀ y, _ = bindL _ _ _ y› _) rfl)
local macro_rules | `(tactic| walk_at "st") => `(tactic| first
  | ((with_reducible show wpAny _ _ (eval (Expr.Name _ _) _) _ _ _); rename St _ _ _ _ _ _ _ => I; first
    | refine ev_local I (by rfl) (by walk_at "lk") ?_ | refine ev_bi I (by assumption) (by rfl) ?_ | refine ev_global I (by assumption) (by rfl) ?_ | refine ev_cellAt I (by rfl) (by assumption) ?_)
  | ((with_reducible show wpAny _ _ (eval (Expr.Call (Expr.Name _ _) _ _ _) _) _ _ _); rename St _ _ _ _ _ _ _ => I; (first | refine e_bcall I (by assumption) (by rfl) ?_ | refine e_def I (by assumption) (by rfl) (by rfl) ?_); intro _ _)
  | ((with_reducible show wpAny _ _ (eval _ _) _ _ _); first
    | (rename St _ _ _ _ _ _ _ => I; (with_reducible first | refine ev_int I ?_ | refine ev_str I ?_ | refine ev_bytes I ?_ | refine e_list_nil I ?_); clear I; intro _ _ _)
    | with_reducible first
      | refine wpAny_BinOp ?_ | refine e_cmp1 ?_ | refine e_sub ?_ | refine e_attr ?_ | refine e_list ?_ | refine e_tuple ?_ | refine ev_none ?_ | refine ev_bool ?_ | refine wpAny_UnaryOp ?_ | refine e_ifexp ?_ | refine e_or ?_ | refine e_or1 ?_)
  | ((with_reducible show wpAny _ _ (spliced _) _ _ _); first
    | (rename St _ _ _ _ _ _ _ => I; with_reducible refine i_loc I (by with_unfolding_all rfl) (by walk_at "lk") ?_)
    | with_reducible first | refine i_cons ?_ | refine wpAny_items_nil ?_)
  | ((with_reducible show wpAny _ _ (execs _ _) _ _ _); with_reducible first
    | ((first | refine x_assign ?_ | refine x_if ?_ | refine x_expr ?_ | refine x_tuple ?_ | refine x_aug ?_ | refine x_setsub ?_ | refine x_setattr ?_); intro _ _)
    | refine x_return ?_ | refine x_nil ?_
    | (show wpAny _ _ (execs (_ ++ _) _) _ _ _; dsimp only [List.cons_append, List.nil_append]))
  | ((with_reducible show wpAny _ _ (compareOp _ _ _) _ _ _); with_reducible first
    | refine lt_int ?_ | refine le_int ?_ | refine gt_int ?_ | refine ge_int ?_ | refine eq_int ?_ | refine ne_int ?_ | refine b_eq ?_ | refine b_ne ?_ | refine r_is_none ?_ | refine r_isnot_none ?_)
  | (rename St _ _ _ _ _ _ _ => I; with_reducible first | (refine HkA.go (by assumption) I ?_; clear I; intro _ _) | refine HkD.go (by assumption) I (by assumption) ?_ | refine Hk.go (by assumption) ?_ | refine HkN.go (by assumption) ?_ | refine HkF.go (by assumption) ?_)
  | ((with_reducible show wpAny _ _ (PySem.isTrue _ _ _) _ _ _); with_reducible first | refine t_cmp1 ?_ | refine t_call ?_ | refine t_name ?_ | refine t_and ?_ | refine t_or ?_ | refine isTrue_and_nil ?_ | refine isTrue_or_nil ?_)
  | (rename St _ _ _ _ _ _ _ => I; (with_reducible first
    | refine r_add I ?_ | refine r_sub I ?_ | refine r_mod I (by first | decide | omega) ?_ | refine r_fdiv I (by first | decide | omega) ?_ | refine r_pow I (by decide) (by decide) (by decide) ?_
    | refine r_mul I (by first | exact Or.inr (by decide) | exact Or.inl (by decide) | omega) ?_
    | refine r_iadd I ?_ | refine r_neg I ?_ | refine r_intbool I ?_ | refine r_abs I ?_); clear I; intro _ _ _)
  | with_reducible first
    | refine tr_bool ?_ | refine lit_true ?_ | refine lit_false ?_ | refine ep_none ?_ | refine ep_some ?_ | refine as_name ?_ | refine wpAny_tests_nil ?_ | refine wpAny_tests_one ?_ | refine r_intint ?_ | refine pairTrees_cons_walk ?_ | refine pairTrees_nil_walk ?_
  | (rename St _ _ _ _ _ _ _ => I; with_reducible first
    | (refine st_local I ?_; clear I; intro _ _) | refine ld_local I (by with_unfolding_all rfl) (by walk_at "lk") ?_)
  | ((with_reducible show wpAny _ _ (assignInOrder _ _) _ _ _); first | refine as_cons ?_ | refine as_nil ?_)
  | (with_reducible refine if_split (fun hc => ?_) (fun hc => ?_)) <;> (try simp only [decide_eq_true_eq, decide_eq_false_iff_not, Bool.not_eq_true', Bool.not_eq_false', beq_iff_eq, bne_iff_ne, beq_eq_false_iff_ne, bne_eq_false_iff_eq] at hc))
local macro_rules | `(tactic| walk_at "ga") => `(tactic| first
  | (rename St _ _ _ _ _ _ _ => I; with_reducible first
    | ((first | refine r_len I (IsL.at (by assumption) I) (by omega) ?_ | refine r_max2 (Ar.h (by assumption)) I ?_ | refine r_min2 (Ar.h (by assumption)) I ?_ | refine r_max3 (Ar.h (by assumption)) I ?_); clear I; intro _ _ _)
    | (refine g_attr I (by assumption) (by assumption) (by assumption) (by with_unfolding_all rfl) ?_ (by with_unfolding_all rfl) (by with_unfolding_all rfl) (by with_unfolding_all rfl) (by with_unfolding_all rfl); clear I; intro _ _)
    | refine g_meth I (by assumption) (by assumption) (by assumption) ?_ (by with_unfolding_all rfl) (by with_unfolding_all rfl) (by with_unfolding_all rfl)
    | refine c_meth0 I (by assumption) (by with_unfolding_all rfl) ?_
    | (refine c_meth I (by assumption) (by with_unfolding_all rfl) ?_; intro _ _))
  | with_reducible refine e_meth ?_)
local macro_rules | `(tactic| walk_at "sf") => `(tactic| (fail_if_success with_reducible show wpAny _ _ (execs (Stmt.If _ _ _ _ :: _) _) _ _ _); first | walk_at "st" | walk_at "ga")

section
variable {Z : Shared} {G B : Kn} {L : Addr} {m : Str → Option Value} {led : Led} {s : Shared} {w : World} {prog : Program} {A : Around} {E : Value → Shared → Prop} {d c : Addr} {P : Obj → Prop}

def CellsP (o : Obj) : Prop := ∃ its, (∃ ns, All2 RI its ns ∧ its.length ≤ 20) ∧ LP its o
def kvDeck (c : Addr) (mx : Int) (t1 : Tok) (tn : Int) (t2 : Tok) : List (Str × Value) := [(Str.ofString "cells", .ref c), (Str.ofString "mixed", .int mx t1), (Str.ofString "turn", .int tn t2)]
def DeckP (prog : Program) (w : World) (c : Addr) (T : Nat) (o : Obj) : Prop :=
  ∃ q : Int × Tok × Int × Tok, (0 ≤ q.1 ∧ q.1 < 2147483587 ∧ 0 ≤ q.2.2.1 ∧ q.2.2.1 ≤ T) ∧ DP prog w (kvDeck c q.1 q.2.1 q.2.2.1 q.2.2.2) o
abbrev deck (prog : Program) (w : World) (d c : Addr) (T : Nat) : Led := [(d, DeckP prog w c T), (c, CellsP)]

local macro_rules | `(tactic| walk_at "dg") => `(tactic| (rename St _ _ _ _ _ _ _ => I; with_reducible refine t_dget I (by with_unfolding_all rfl) ?_; clear I; intro _ _))

theorem dset_turn {Q : Unit → Shared → Prop} {mx tn v : Int} {t1 t2 t t' : Tok} (I : St Z G B L m ((d, DP prog w (kvDeck c mx t1 tn t2)) :: led) s) (h : ∀ s', St Z G B L m ((d, DP prog w (kvDeck c mx t1 v t')) :: led) s' → Q () s') :
    wpAny (model prog w) A (setItem (.ref d) (.str (Str.ofString "turn") t) (.int v t')) Q E s := r_dset I (by show 3 ≤ 100; first | lia | omega) h
theorem deck_close {mx tn : Int} {t1 t2 : Tok} {T : Nat} {its : List Value} {ns : List Int} (I : St Z G B L m ((d, DP prog w (kvDeck c mx t1 tn t2)) :: (c, LP its) :: led) s) (h : 0 ≤ mx ∧ mx < 2147483587 ∧ 0 ≤ tn ∧ tn ≤ T) (hn : All2 RI its ns) (hl : its.length ≤ 20) : St Z G B L m (deck prog w d c T ++ led) s :=
  ((I.weak (fun o q => ⟨⟨mx, t1, tn, t2⟩, h, q⟩)).swap.weak (fun o q => ⟨its, ⟨ns, hn, hl⟩, q⟩)).swap

theorem All2.last {α β : Type} {R : α → β → Prop} {l : List α} {r : List β} (h : All2 R l r) (hr : r ≠ []) : ∃ l' r' x y, l = l' ++ [x] ∧ r = r' ++ [y] ∧ All2 R l' r' ∧ R x y := by
  induction h with
  | nil => exact absurd rfl hr
  | @cons a b l r hd tl ih =>
    by_cases e : r = []
    · subst e
      cases tl
      exact ⟨[], [], a, b, rfl, rfl, .nil, hd⟩
    · obtain ⟨l', r', x, y, e1, e2, h1, h2⟩ := ih e
      exact ⟨a :: l', b :: r', x, y, by rw [e1]; rfl, by rw [e2]; rfl, .cons hd h1, h2⟩

theorem draw_spec {n T : Nat} {below : Int} {tb : Tok} {Q : Value → Shared → Prop} (hA : Ar (n + 2) A) (hB : Amb w B) (I : St Z G B L m (deck prog w d c T ++ led) s) (hT : T ≤ 1000000) (hb : 0 < below ∧ below ≤ 1000)
    (k : ∀ v t s', 0 ≤ v → v < below → St Z G B L m (deck prog w d c (T + 1) ++ led) s' → Q (.int v t) s') : wpAny (model prog w) A (call (.ref 110) [.ref d, .int below tb]) Q E s := by
  refine call_fn (args := ⟨[.ref d, .int below tb], []⟩) (binds := [("deck", .ref d), ("below", .int below tb)]) hA I hB (by rfl) (by rfl) (BindsTo.of_eq rfl) rfl (fun G' L' m₁ s₁ A' P hP hA' hm I => ?_)
  obtain ⟨⟨mx, t1, tn, t2⟩, hq, I⟩ := I.open1 (fun o h => h)
  dsimp only at hq I
  repeat' (first | walk_at "st" | walk_at "dg")
  rename St _ _ _ _ _ _ _ => I
  refine dset_turn I ?_
  clear I
  intro s₂ I
  repeat' (first | walk_at "st" | walk_at "dg")
  rename St _ _ _ _ _ _ _ => I
  have ha := I.headP
  have I := I.drop.swap
  obtain ⟨its, ⟨ns, hn, hl⟩, I⟩ := I.open1 (fun o h => h)
  refine r_ne_lists eqR_I (hA'.in1) I.headP ha hn .nil ?_
  have I := I.swap
  refine wpAny_truthy_bool ?_
  refine Hk.go (by assumption) ?_
  refine if_split (fun hc => ?_) (fun hc => ?_)
  · have hc : ns ≠ [] := by simpa using hc
    obtain ⟨its, ns, y, kk, rfl, rfl, hn', ⟨ty, rfl⟩⟩ := hn.last hc
    have hl : its.length ≤ 19 := by simp at hl; first | lia | omega
    clear hc
    walk_at "st"
    refine x_assign fun K hK => m_pop fun K₁ h₁ => ?_
    walk_at "st"
    walk_at "st"
    walk_at "st"
    walk_at "dg"
    rename St _ _ _ _ _ _ _ => I
    refine h₁ I.swap ?_
    refine r_pop I.swap (by first | lia | omega) fun s₃ I => ?_
    have I := I.swap
    repeat' (first | walk_at "st" | walk_at "dg")
    · refine m_append fun K₁ h₁ => ?_
      walk_at "st"
      walk_at "st"
      walk_at "st"
      walk_at "dg"
      rename St _ _ _ _ _ _ _ => I
      refine h₁ I.swap ?_
      repeat' (first | walk_at "st" | walk_at "dg")
      rename St _ _ _ _ _ _ _ => I
      refine r_append I.swap (by first | lia | omega) fun s₃ I => ?_
      have I := I.swap
      repeat' (first | walk_at "st" | walk_at "dg")
      rename St _ _ _ _ _ _ _ => I
      exact hP _ _ B _ _ Le.rfl (deck_close (led := []) I (T := T + 1) (by first | lia | omega) (hn'.app (.cons ⟨_, rfl⟩ .nil)) (by simp; first | lia | omega)) fun J => k _ _ _ (Int.emod_nonneg _ (by first | lia | omega)) (Int.emod_lt_of_pos _ hb.1) J
    · rename St _ _ _ _ _ _ _ => I
      exact hP _ _ B _ _ Le.rfl (deck_close (led := []) I (T := T + 1) (by first | lia | omega) hn' (by first | lia | omega)) fun J => k _ _ _ (Int.emod_nonneg _ (by first | lia | omega)) (Int.emod_lt_of_pos _ hb.1) J
  · have hc : ns = [] := by simpa using hc
    repeat' (first | walk_at "st" | walk_at "dg")
    rename St _ _ _ _ _ _ _ => I
    exact hP _ _ B _ _ Le.rfl (deck_close (led := []) I (T := T + 1) (by first | lia | omega) hn hl) fun J => k _ _ _ (Int.emod_nonneg _ (by first | lia | omega)) (Int.emod_lt_of_pos _ hb.1) J
end

section
theorem deck_mono {T T' : Nat} (I : St Z G B L m (deck prog w d c T ++ led) s) (h : T ≤ T') : St Z G B L m (deck prog w d c T' ++ led) s :=
  St.weak I (fun o ⟨q, hq, r⟩ => ⟨q, ⟨hq.1, hq.2.1, hq.2.2.1, by omega⟩, r⟩)

theorem pick_spec {n T : Nat} {l : Addr} {its : List Value} {Q : Value → Shared → Prop} (hA : Ar (n + 3) A) (hB : Amb w B) (I : St Z G B L m (deck prog w d c T ++ led) s) (hT : T ≤ 999999) (hl : IsL B l its) (hz : 0 < its.length ∧ its.length ≤ 1000)
    (k : ∀ v s', v ∈ its → St Z G B L m (deck prog w d c (T + 1) ++ led) s' → Q v s') : wpAny (model prog w) A (call (.ref 117) [.ref d, .ref l]) Q E s := by
  refine call_fn (args := ⟨[.ref d, .ref l], []⟩) (binds := [("deck", .ref d), ("some", .ref l)]) hA I hB (by rfl) (by rfl) (BindsTo.of_eq rfl) rfl (fun G' L' m₁ s₁ A' P hP hA' hm I => ?_)
  repeat' walk_at "st"
  rename St _ _ _ _ _ _ _ => I
  refine r_len I (hl.at I) hz.2 ?_
  clear I
  intro t s₂ I
  repeat' walk_at "st"
  try dsimp only
  rename St _ _ _ _ _ _ _ => I
  refine draw_spec (led := []) hA' hB I (by omega) (by omega) fun v t s₃ h0 h1 I => ?_
  refine t_lget (hl.at I) h0 h1 hz.2 fun v hv => ?_
  exact hP _ _ B _ _ Le.rfl I fun J => k _ _ (List.mem_of_getElem? hv) J
end

section
theorem mkdeck_spec {n : Nat} {l : Addr} {its : List Value} {Q : Value → Shared → Prop} (hA : Ar (n + 2) A) (hB : Amb w B) (I : St Z G B L m led s) (hl : IsL B l its) (hi : ∀ v ∈ its, ∃ i, RI v i) (hz : its.length ≤ 63)
    (k : ∀ d c B' s', Le B B' → St Z G B' L m (deck prog w d c 0 ++ led) s' → Q (.ref d) s') : wpAny (model prog w) A (call (.ref 103) [.ref l]) Q E s := by
  refine call_fn (lp := []) (lk := led) (args := ⟨[.ref l], []⟩) (binds := [("script", .ref l)]) hA I hB (by rfl) (by rfl) (BindsTo.of_eq rfl) rfl (fun G' L' m₁ s₁ A' P hP hA' hm I => ?_)
  walk_at "st"
  walk_at "st"
  walk_at "st"
  refine e_comp (Z := Z) (cl := []) (fun K₉ h₉ => ?_) (by rfl)
  refine e_slice fun K₁ h₁ => ?_
  repeat' walk_at "st"
  try dsimp only
  rename St _ _ _ _ _ _ _ => I
  refine h₁ (hl.at I) (by omega) .none (.int _ _) I fun a s₂ I => ?_
  obtain ⟨B₁, le, ha, I⟩ := I.freezeL
  refine pi_list hA'.h I ha fun a' s₃ W I hS => ?_
  have hcut : (cutL its none (some 20)).length ≤ 20 := by
    unfold cutL
    simp [clipAt]
    omega
  refine h₉ (fun i B ys led => (∀ v ∈ ys, ∃ i, RI v i) ∧ ys.length ≤ i ∧ led = []) (by omega) W I hS ⟨(fun v hv => nomatch hv), Nat.zero_le _, rfl⟩ ?_ ?_
  · intro C i v B' ys led' G₂ mc s₄ E' KY KN hY hNx hi' hP hle hJ I
    obtain ⟨j1, j2, rfl⟩ := hJ
    have hB' := (hB.mono le).mono hle
    have : v ∈ its := by
      have := List.mem_of_getElem? hP
      unfold cutL at this
      exact List.mem_of_mem_drop (List.mem_of_mem_take this)
    obtain ⟨x, tx, rfl⟩ := hi v this
    repeat' walk_at "st"
    rename St _ _ _ _ _ _ _ => I
    refine hY _ _ B' _ ([]) Le.rfl ⟨fun v hv => ?_, by simp; omega, rfl⟩ I
    rcases List.mem_append.mp hv with h | h
    · exact j1 v h
    · simp at h; subst h; exact ⟨_, _, rfl⟩
  · intro D B' ys led' s₄ le' hJ I
    obtain ⟨j1, j2, rfl⟩ := hJ
    have hB' := (hB.mono le).mono le'
    have le2 := le.trans le'
    obtain ⟨ns, hns⟩ := All2.of_mem j1
    clear W hS
    repeat' walk_at "st"
    rename St _ _ _ _ _ _ _ => I
    refine r_newTuple I (by simp) fun t B₂ s₅ l2 ht I => ?_
    have hB₂ := hB'.mono l2
    refine HkT.go (by assumption) hA' ht I fun s₆ I => ?_
    repeat' walk_at "st"
    refine x_for fun K₀ hF hR => ?_
    repeat' walk_at "st"
    rename St _ _ _ _ _ _ _ => I
    obtain ⟨B₃, l3, hD, I⟩ := I.freezeL
    have hB₃ := hB₂.mono l3
    refine pi_list hA'.h I hD fun a' s₃ W I hS => ?_
    refine loop_core W (fun i B' m' led' => led' = [] ∧ m' (Str.ofString "cells") = some (.ref D) ∧ ∃ mx t, m' (Str.ofString "mixed") = some (.int mx t) ∧ 0 ≤ mx ∧ mx < 2147483587) I hS ⟨rfl, by walk_at "lk", 29629, _, by walk_at "lk", by omega, by omega⟩ ?_ ?_
    · rintro i v B₄ m' led' G₂ s₄ E' P₂ hNx hR₂ hi' hP l4 ⟨rfl, m1, mx, tm, m2, m3, m4⟩ I
      have hB₄ := hB₃.mono l4
      obtain ⟨x, tx, rfl⟩ := j1 v (List.mem_of_getElem? hP)
      repeat' walk_at "st"
      rename St _ _ _ _ _ _ _ => I
      exact hNx _ B₄ _ _ Le.rfl ⟨rfl, by walk_at "lk", _, _, by walk_at "lk", Int.emod_nonneg _ (by omega), Int.emod_lt_of_pos _ (by omega)⟩ I
    · rintro B₄ m' led' s₄ l4 ⟨rfl, m1, mx, tm, m2, m3, m4⟩ I
      have hB₄ := hB₃.mono l4
      repeat' walk_at "st"
      rename St _ _ _ _ _ _ _ => I
      refine e_dict I (fun d₀ s₅ K₈ h₈ I => ?_) (by rfl) (by simp [pairTrees]) (by simp [pairTrees])
      walk_at "st"
      walk_at "st"
      refine e_slice3 fun K₁ h₁ => ?_
      repeat' walk_at "st"
      rename St _ _ _ _ _ _ _ => I
      refine h₁ ((hD.mono l4).at I) (by omega) (.int _ _) (by decide) I fun c₀ its' s₆ hlen hsub I => ?_
      repeat' walk_at "st"
      rename St _ _ _ _ _ _ _ => I
      refine h₈ [(Str.ofString "cells", .ref c₀), (Str.ofString "mixed", .int mx tm), (Str.ofString "turn", .int 0 _)] ⟨strKind_is prog w _ _, rfl, strKind_is prog w _ _, rfl, strKind_is prog w _ _, rfl, trivial⟩ I.swap fun s₇ I => ?_
      have e : merged [] [(Str.ofString "cells", Value.ref c₀), (Str.ofString "mixed", .int mx tm), (Str.ofString "turn", .int 0 ‹_›)] = kvDeck c₀ mx tm 0 ‹_› := by rfl
      obtain ⟨ns', hns'⟩ := All2.of_mem (fun v hv => j1 v (hsub v hv))
      have I := deck_close (led := []) (T := 0) I (by omega) hns' (by omega)
      exact hP _ _ B₄ _ _ (((le2.trans l2).trans l3).trans l4) I fun J => k _ _ _ _ (((le2.trans l2).trans l3).trans l4) J
end

section
theorem All2.mem' {α β : Type} {S : α → β → Prop} {q : β → Prop} {l : List α} {r : List β} (h : All2 (fun v b => S v b ∧ q b) l r) : ∀ b ∈ r, q b := by
  induction h with
  | nil => intro v hv; cases hv
  | cons hd _ ih =>
    intro v hv
    rcases List.mem_cons.mp hv with rfl | hv
    · exact hd.2
    · exact ih v hv
theorem text_spec {n T : Nat} {Q : Value → Shared → Prop} (hA : Ar (n + 5) A) (hB : Amb w B) (I : St Z G B L m (deck prog w d c T ++ led) s) (hT : T ≤ 900000)
    (k : ∀ ll B' vs txt s', Le B B' → IsL B' ll vs → All2 RB vs txt → (∀ b ∈ txt, b.size ≤ 2) → txt.length ≤ 6 → St Z G B' L m (deck prog w d c (T + 20) ++ led) s' → Q (.ref ll) s') : wpAny (model prog w) A (call (.ref 122) [.ref d]) Q E s := by
  refine call_fnC (args := [.ref d]) (binds := [("deck", .ref d)]) (x := "deck") (vx := .ref d) hA I hB (by rfl) (by rfl) (by rfl) (by rfl) (fun n => by rfl) (fun n => by rfl) (fun G' B₁ L' m₁ s₁ A' P hP hA' le₁ hcell hm I => ?_)
  have hcell : CellAt B₁ (L' + 1) (.ref d) := hcell
  have hB₁ := hB.mono le₁
  refine x_comp (Z := Z) (cl := [(Str.ofString "deck", L' + 1)]) (fun K₉ h₉ => ?_) (by rfl)
  repeat' walk_at "st"
  rename St _ _ _ _ _ _ _ => I
  refine draw_spec (n := 0) (led := []) hA'.dn0 hB₁ I (by first | lia | omega) (by first | lia | omega) fun v t s₂ h0 h1 I => ?_
  repeat' walk_at "st"
  rename St _ _ _ _ _ _ _ => I
  refine pi_range1 hA'.h I (by first | lia | omega) fun a s₃ W I hS => ?_
  refine h₉ (fun i B ys led => (∀ v ∈ ys, ∃ b, RB v b ∧ b.size ≤ 2) ∧ ys.length ≤ i ∧ led = deck prog w d c (T + 1 + i)) (by first | lia | omega) W I hS ⟨(fun v hv => nomatch hv), Nat.zero_le _, rfl⟩ ?_ ?_
  · rintro C i v' B' ys led' G₂ mc s₄ E' KY KN hY hNx hi' hP l4 ⟨j1, j2, rfl⟩ I
    have hB' := hB₁.mono l4
    have hc' := hcell.mono l4
    repeat' walk_at "st"
    rename St _ _ _ _ _ _ _ => I
    refine r_newListK I (by simp) fun l' B₂ s₅ l2 hl I => ?_
    have hB₂ := hB'.mono l2
    repeat' walk_at "st"
    rename St _ _ _ _ _ _ _ => I
    refine pick_spec (n := 0) (led := []) hA'.dn0 hB₂ I (by first | lia | omega) hl (by simp) fun v s₆ hv I => ?_
    refine hY _ _ B₂ _ (deck prog w d c (T + 1 + (i + 1))) l2 ⟨fun u hu => ?_, by simp; first | lia | omega, rfl⟩ I
    rcases List.mem_append.mp hu with h | h
    · exact j1 u h
    · simp at h; subst h
      simp at hv
      rcases hv with rfl | rfl
      · exact ⟨_, ⟨_, rfl⟩, by simp⟩
      · exact ⟨_, ⟨_, rfl⟩, by simp⟩
  · rintro D B' ys led' s₄ l4 ⟨j1, j2, rfl⟩ I
    have hB' := hB₁.mono l4
    have hc' := hcell.mono l4
    obtain ⟨txt, ht⟩ := All2.of_mem (R := fun v b => RB v b ∧ b.size ≤ 2) j1
    clear W hS
    repeat' walk_at "st"
    rename St _ _ _ _ _ _ _ => I
    refine r_ne_lists eqR_B (hA'.in1) I.swap.headP I.headP (ht.imp fun _ _ h => h.1) .nil ?_
    have I := I.drop
    refine wpAny_truthy_bool ?_
    walk_at "st"
    · rename ¬ (txt = []) => hne
      repeat' walk_at "st"
      rename St _ _ _ _ _ _ _ => I
      have I := I.perm (led' := deck prog w d c (T + 1 + v.toNat) ++ [(D, LP ys)]) (by
        show ((D, LP ys) :: (deck prog w d c (T + 1 + v.toNat))).Perm _
        exact (List.perm_append_comm (l₁ := [(D, LP ys)])))
      refine draw_spec (n := 0) (led := [(D, LP ys)]) hA'.dn0 hB' I (by first | lia | omega) (by first | lia | omega) fun v₂ t₂ s₆ h0' h1' I => ?_
      have I := I.perm (led' := (D, LP ys) :: deck prog w d c (T + 1 + v.toNat + 1)) (List.perm_append_comm (l₂ := [(D, LP ys)]))
      repeat' walk_at "st"
      · obtain ⟨ys', txt', y, b, rfl, rfl, ht', ⟨⟨tb, rfl⟩, hb⟩⟩ := ht.last hne
        refine e_bslice fun K₁ h₁ => ?_
        repeat' walk_at "st"
        rename St _ _ _ _ _ _ _ => I
        have hy : ys'.length ≤ 6 := by simp at j2; first | lia | omega
        refine t_llast rfl I.headP (by first | lia | omega) ?_
        repeat' walk_at "st"
        rename St _ _ _ _ _ _ _ => I
        refine h₁ (by first | lia | omega) .none (.int _ _) I fun t₃ s₇ I => ?_
        repeat' walk_at "st"
        rename St _ _ _ _ _ _ _ => I
        refine r_setlast I fun s₈ I => ?_
        obtain ⟨B₃, l3, hD, I⟩ := I.freezeL
        repeat' walk_at "st"
        rename St _ _ _ _ _ _ _ => I
        refine hP _ _ B₃ _ _ ((le₁.trans l4).trans l3) (deck_mono (led := []) I (T' := T + 20) (by first | lia | omega)) fun J => k D B₃ _ (txt' ++ [KBy.picked b none (some 1)]) _ ((le₁.trans l4).trans l3) hD ((ht'.imp fun _ _ h => h.1).app (.cons ⟨_, rfl⟩ .nil)) ?_ ?_ J
        · intro x hx
          rcases List.mem_append.mp hx with h | h
          · exact (ht.mem' x (List.mem_append_left _ h))
          · simp at h; subst h
            exact Nat.le_trans picked_le hb
        · have := ht'.length
          simp at j2 ⊢; first | lia | omega
      · rename St _ _ _ _ _ _ _ => I
        obtain ⟨B₃, l3, hD, I⟩ := I.freezeL
        repeat' walk_at "st"
        rename St _ _ _ _ _ _ _ => I
        refine hP _ _ B₃ _ _ ((le₁.trans l4).trans l3) (deck_mono (led := []) I (T' := T + 20) (by first | lia | omega)) fun J => k D B₃ _ txt _ ((le₁.trans l4).trans l3) hD (ht.imp fun _ _ h => h.1) ht.mem' (by rw [← ht.length]; first | lia | omega) J
    · repeat' walk_at "st"
      rename St _ _ _ _ _ _ _ => I
      obtain ⟨B₃, l3, hD, I⟩ := I.freezeL
      refine hP _ _ B₃ _ _ ((le₁.trans l4).trans l3) (deck_mono (led := []) I (T' := T + 20) (by first | lia | omega)) fun J => k D B₃ _ txt _ ((le₁.trans l4).trans l3) hD (ht.imp fun _ _ h => h.1) ht.mem' (by rw [← ht.length]; first | lia | omega) J
end

section
def RowsP (B : Kn) (ys : List Value) : Prop := ∀ v ∈ ys, ∃ r, RR B v r ∧ r.2.size ≤ 2
theorem RowsP.mono {B B' : Kn} {ys : List Value} (h : RowsP B ys) (l : Le B B') : RowsP B' ys := fun v hv => let ⟨r, a, b⟩ := h v hv; ⟨r, a.mono l, b⟩
theorem RowsP.app {B : Kn} {ys : List Value} {p : Addr} {x y : Bt} {t u : Tok} (h : RowsP B ys) (hp : IsT B p [.bytes x t, .bytes y u]) (hy : y.size ≤ 2) : RowsP B (ys ++ [.ref p]) := fun v hv => by
  rcases List.mem_append.mp hv with q | q
  · exact h v q
  · simp at q; subst q
    exact ⟨(x, y), ⟨p, t, u, rfl, hp⟩, hy⟩
inductive FJ5 (prog : Program) (w : World) (d c : Addr) (T : Nat) (F : Addr) (i : Nat) (B' : Kn) (m' : Str → Option Value) (led' : Led) : Prop
  | mk (ys : List Value) (e : led' = (F, LP ys) :: deck prog w d c (T + 1 + 4 * i)) (j1 : RowsP B' ys) (j2 : ys.length ≤ 2 * i) (m1 : m' (Str.ofString "found") = some (.ref F)) (m2 : m' (Str.ofString "deck") = some (.ref d)) : FJ5 prog w d c T F i B' m' led'
inductive FM5 (B₂ : Kn) (Z : Shared) (G : Kn) (L : Addr) (m : Str → Option Value) (F : Addr) (led' : Led) (n : Nat) (s' : Shared) : Prop
  | mk (B₃ : Kn) (ys' : List Value) (l : Le B₂ B₃) (j1 : RowsP B₃ ys') (j2 : ys'.length ≤ n) (I : St Z G B₃ L m ((F, LP ys') :: led') s') : FM5 B₂ Z G L m F led' n s'
theorem rows_spec {n T : Nat} {ll : Addr} {vs : List Value} {txt : List Bt} {start : Int} {tst : Tok} {Q : Value → Shared → Prop} (hA : Ar (n + 5) A) (hB : Amb w B) (I : St Z G B L m (deck prog w d c T ++ led) s) (hT : T ≤ 900000)
    (hl : IsL B ll vs) (ht : All2 RB vs txt) (hs : ∀ b ∈ txt, b.size ≤ 2) (hz : txt.length ≤ 6) (hst : 0 ≤ start ∧ start ≤ 6)
    (k : ∀ rl B' rs s', Le B B' → IsL B' rl rs → RowsP B' rs → rs.length ≤ 13 → St Z G B' L m (deck prog w d c (T + 60) ++ led) s' → Q (.ref rl) s') : wpAny (model prog w) A (call (.ref 129) [.ref d, .ref ll, .int start tst]) Q E s := by
  refine call_fn (args := ⟨[.ref d, .ref ll, .int start tst], []⟩) (binds := [("deck", .ref d), ("lines", .ref ll), ("start", .int start tst)]) hA I hB (by rfl) (by rfl) (BindsTo.of_eq rfl) rfl (fun G' L' m₁ s₁ A' P hP hA' hm I => ?_)
  refine x_assign fun K₀ hK => e_list_nil I fun F s₂ I => ?_
  repeat' walk_at "st"
  rename St _ _ _ _ _ _ _ => I
  have vl : vs.length ≤ 6 := by rw [ht.length]; exact hz
  refine x_for fun K₀ hF hR => e_slice fun K₁ h₁ => ?_
  repeat' walk_at "st"
  rename St _ _ _ _ _ _ _ => I
  refine draw_spec (n := 0) (led := [_]) hA'.dn0 hB I.up2 (by first | lia | omega) (by first | lia | omega) fun v t s₂ h0 h1 I => ?_
  have I := I.dn2
  repeat' walk_at "st"
  rename St _ _ _ _ _ _ _ => I
  refine h₁ (hl.at I) (by first | lia | omega) (.int _ _) (.int _ _) I fun a s₃ I => ?_
  obtain ⟨B₁, l1, ha, I⟩ := I.freezeL
  have hB₁ := hB.mono l1
  have hcut : (cutL vs (some start) (some (start + v))).length ≤ 6 := by
    unfold cutL
    rw [List.length_take, List.length_drop]; first | lia | omega
  refine pi_list hA'.h I ha fun a' s₄ W I hS => ?_
  refine loop_core W (FJ5 prog w d c T F) I hS ⟨[], rfl, (fun v hv => nomatch hv), Nat.le_refl _, by walk_at "lk", by walk_at "lk"⟩ ?_ ?_
  · rintro i v B₂ m' led' G₂ s₅ E' P₂ hNx hR₂ hi' hP l2 ⟨ys, rfl, j1, j2, m1, m2⟩ I
    have hB₂ := hB₁.mono l2
    have hv : v ∈ vs := by
      have := List.mem_of_getElem? hP
      unfold cutL at this
      exact List.mem_of_mem_drop (List.mem_of_mem_take this)
    obtain ⟨b, hb, ⟨tb, rfl⟩⟩ := ht.mem v hv
    have hb := hs b hb
    walk_at "st"
    walk_at "st"
    rename St _ _ _ _ _ _ _ => I
    refine x_ifm (FM5 B₂ Z G₂ L' (upd m' (Str.ofString "line") (.bytes b tb)) F (deck prog w d c (T + 1 + 4 * i + 2)) (2 * i + 1)) (fun N₀ K₀ hM hK => ?_) ?_
    · repeat' walk_at "st"
      rename St _ _ _ _ _ _ _ => I
      refine draw_spec (n := 0) (led := [_]) hA'.dn0 hB₂ I.up2 (by first | lia | omega) (by first | lia | omega) fun v t s₂ h0 h1 I => ?_
      have I := I.dn2
      repeat' walk_at "st"
      · refine m_append fun K₁ h₁ => ?_
        repeat' walk_at "st"
        rename St _ _ _ _ _ _ _ => I
        refine h₁ I ?_
        repeat' walk_at "st"
        rename St _ _ _ _ _ _ _ => I
        refine r_newListK I (by simp) fun l' B₃ s₅ l3 hl I => ?_
        have hB₃ := hB₂.mono l3
        repeat' walk_at "st"
        rename St _ _ _ _ _ _ _ => I
        refine pick_spec (n := 0) (led := [_]) hA'.dn0 hB₃ I.up2 (by first | lia | omega) hl (by simp) fun v s₆ hv I => ?_
        have I := I.dn2
        obtain ⟨y, u, rfl, hy⟩ : ∃ y u, v = .bytes y u ∧ y.size ≤ 2 := by
          simp at hv
          rcases hv with rfl | rfl
          · exact ⟨_, _, rfl, by simp⟩
          · exact ⟨_, _, rfl, by simp⟩
        repeat' walk_at "st"
        refine r_newTuple I (by simp) fun t B₄ s₇ l4 ht I => ?_
        refine r_append I (by first | lia | omega) fun s₈ I => ?_
        refine HkN.go (by assumption) ?_
        repeat' walk_at "st"
        rename St _ _ _ _ _ _ _ => I
        exact hM _ ⟨B₄, _, l3.trans l4, (j1.mono (l3.trans l4)).app ht hy, by simp; first | lia | omega, I⟩
      · rename St _ _ _ _ _ _ _ => I
        exact hM _ ⟨B₂, _, Le.rfl, j1, by first | lia | omega, (deck_mono (led := [_]) I.up2 (by first | lia | omega)).dn2⟩
    · rintro s₆ ⟨B₃, ys', l3, j1, j2, I⟩
      have hB₃ := hB₂.mono l3
      walk_at "st"
      refine m_append fun K₁ h₁ => ?_
      repeat' walk_at "st"
      rename St _ _ _ _ _ _ _ => I
      refine h₁ I ?_
      repeat' walk_at "st"
      rename St _ _ _ _ _ _ _ => I
      refine r_newListK I (by simp) fun l' B₄ s₅ l4 hl I => ?_
      have hB₄ := hB₃.mono l4
      repeat' walk_at "st"
      rename St _ _ _ _ _ _ _ => I
      refine pick_spec (n := 0) (led := [_]) hA'.dn0 hB₄ I.up2 (by first | lia | omega) hl (by simp) fun v s₆ hv I => ?_
      have I := I.dn2
      obtain ⟨y, u, rfl⟩ : ∃ y u, v = .bytes y u := by
        simp at hv
        rcases hv with rfl | rfl | rfl <;> exact ⟨_, _, rfl⟩
      repeat' walk_at "st"
      rename St _ _ _ _ _ _ _ => I
      refine draw_spec (n := 0) (led := [_]) hA'.dn0 hB₄ I.up2 (by first | lia | omega) (by first | lia | omega) fun v t s₂ h0 h1 I => ?_
      have I := I.dn2
      repeat' walk_at "st"
      all_goals
        rename St _ _ _ _ _ _ _ => I
        refine r_newTuple I (by simp) fun t B₅ s₇ l5 ht I => ?_
        refine r_append I (by first | lia | omega) fun s₈ I => ?_
        refine HkN.go (by assumption) ?_
        repeat' walk_at "st"
        rename St _ _ _ _ _ _ _ => I
        exact hNx _ B₅ _ _ ((l3.trans l4).trans l5) ⟨_, rfl, (j1.mono (l4.trans l5)).app ht (by first | exact hb | decide), by simp; first | lia | omega, by walk_at "lk", by walk_at "lk"⟩ ((deck_mono (led := [_]) I.up2 (by first | lia | omega)).dn2)
  · rintro B₂ m' led' s₅ l2 ⟨ys, rfl, j1, j2, m1, m2⟩ I
    have hB₂ := hB₁.mono l2
    refine HkF.go (by assumption) ?_
    refine x_ifm (FM5 B₂ Z G' L' m' F (deck prog w d c (T + 60)) 13) (fun N₀ K₀ hM hK => ?_) ?_
    · repeat' walk_at "st"
      rename St _ _ _ _ _ _ _ => I
      refine draw_spec (n := 0) (led := [_]) hA'.dn0 hB₂ I.up2 (by first | lia | omega) (by first | lia | omega) fun v t s₂ h0 h1 I => ?_
      have I := I.dn2
      repeat' walk_at "st"
      · refine m_append fun K₁ h₁ => ?_
        repeat' walk_at "st"
        rename St _ _ _ _ _ _ _ => I
        refine h₁ I ?_
        repeat' walk_at "st"
        rename St _ _ _ _ _ _ _ => I
        refine r_newListK I (by simp) fun l' B₃ s₅ l3 hl I => ?_
        have hB₃ := hB₂.mono l3
        repeat' walk_at "st"
        rename St _ _ _ _ _ _ _ => I
        refine pick_spec (n := 0) (led := [_]) hA'.dn0 hB₃ I.up2 (by first | lia | omega) hl (by simp) fun v s₆ hv I => ?_
        have I := I.dn2
        obtain ⟨y, u, rfl, hy⟩ : ∃ y u, v = .bytes y u ∧ y.size ≤ 2 := by
          simp at hv
          rcases hv with rfl | rfl | rfl <;> exact ⟨_, _, rfl, by simp⟩
        repeat' walk_at "st"
        refine r_newTuple I (by simp) fun t B₄ s₇ l4 ht I => ?_
        refine r_append I (by first | lia | omega) fun s₈ I => ?_
        refine HkN.go (by assumption) ?_
        repeat' walk_at "st"
        rename St _ _ _ _ _ _ _ => I
        exact hM _ ⟨B₄, _, l3.trans l4, (j1.mono (l3.trans l4)).app ht hy, by simp; first | lia | omega, (deck_mono (led := [_]) I.up2 (by first | lia | omega)).dn2⟩
      · rename St _ _ _ _ _ _ _ => I
        exact hM _ ⟨B₂, _, Le.rfl, j1, by first | lia | omega, (deck_mono (led := [_]) I.up2 (by first | lia | omega)).dn2⟩
    · rintro s₆ ⟨B₃, ys', l3, j1, j2, I⟩
      repeat' walk_at "st"
      rename St _ _ _ _ _ _ _ => I
      obtain ⟨B₄, l4, hF, I⟩ := I.freezeL
      have le := ((l1.trans l2).trans l3).trans l4
      exact hP _ _ B₄ _ _ le I fun J => k F B₄ ys' _ le hF (j1.mono l4) j2 J
end

section
theorem putL_le {name : Str} {hsh : Int} {key v : Value} {es : List DictEntry} {k : Nat} (h : es.length ≤ k) : (putL name hsh key v es).length ≤ k + 1 := by
  induction es generalizing k with
  | nil => simp [putL]
  | cons e r ih =>
    unfold putL
    split
    · simp at h ⊢; first | lia | omega
    · cases k with
      | zero => simp at h
      | succ k => simp at h ⊢; exact ih h
structure HunkAt (B : Kn) (x : Addr) (a b c e : Int) (rl : Addr) (hd : Bt) : Prop where
  at_ : ∃ es, IsO B 58 x es ∧ (∃ t, getL "old_from" es = some (some (.int a t))) ∧ (∃ t, getL "old_many" es = some (some (.int b t))) ∧ (∃ t, getL "new_from" es = some (some (.int c t))) ∧ (∃ t, getL "new_many" es = some (some (.int e t))) ∧
    getL "rows" es = some (some (.ref rl)) ∧ (∃ t, getL "heading" es = some (some (.bytes hd t))) ∧ getL "side" es = some none ∧ getL "start" es = some none ∧ getL "context" es = some none ∧ getL "turned" es = some none

theorem hunk_es {w : World} {a b c e : Value} {rl hd : Value} {t1 t2 t3 t4 t5 t6 : Tok} :
    let es := putL "heading" (PyData.keyHash w.params "heading") (.str "heading" t6) hd (putL "rows" (PyData.keyHash w.params "rows") (.str "rows" t5) rl (putL "new_many" (PyData.keyHash w.params "new_many") (.str "new_many" t4) e
      (putL "new_from" (PyData.keyHash w.params "new_from") (.str "new_from" t3) c (putL "old_many" (PyData.keyHash w.params "old_many") (.str "old_many" t2) b (putL "old_from" (PyData.keyHash w.params "old_from") (.str "old_from" t1) a [])))))
    getL "old_from" es = some (some a) ∧ getL "old_many" es = some (some b) ∧ getL "new_from" es = some (some c) ∧ getL "new_many" es = some (some e) ∧ getL "rows" es = some (some rl) ∧ getL "heading" es = some (some hd) ∧
      getL "side" es = some none ∧ getL "start" es = some none ∧ getL "context" es = some none ∧ getL "turned" es = some none := by
  intro es
  refine ⟨?_, ?_, ?_, ?_, ?_, ?_, ?_, ?_, ?_, ?_⟩ <;> rfl

local macro_rules | `(tactic| walk_at "sa") => `(tactic| ((with_reducible show wpAny _ _ (setAttr (Value.ref _) _ _) _ _ _); (rename St _ _ _ _ _ _ _ => I); refine r_setattr I (by assumption) (by rfl) (by repeat' (first | exact Nat.zero_le _ | refine putL_le ?_)) ?_ (by rfl) (by rfl) (by rfl) (by rfl); clear I; intro _ _ _))

theorem mkhunk6 {n : Nat} {a b e f : Int} {ta tb te tf : Tok} {rl : Addr} {hd : Bt} {th : Tok} {Q : Value → Shared → Prop} (hA : Ar (n + 3) A) (hB : Amb w B) (I : St Z G B L m led s)
    (k : ∀ x B' s', Le B B' → HunkAt B' x a b e f rl hd → St Z G B' L m led s' → Q (.ref x) s') :
    wpAny (model prog w) A (call (.ref 58) [.int a ta, .int b tb, .int e te, .int f tf, .ref rl, .bytes hd th] []) Q E s := by
  refine make_obj (lp := []) (lk := led) (f := 29) (binds := fun x => [("self", x), ("old_from", .int a ta), ("old_many", .int b tb), ("new_from", .int e te), ("new_many", .int f tf), ("rows", .ref rl), ("heading", .bytes hd th)]) hA I hB (by rfl) (by rfl) (by rfl) (by rfl) (by rfl)
    (fun x s' X => BindsTo.of_defaults (T := 22) rfl (X _ _ (by rfl)) rfl rfl rfl) (fun x => rfl) (fun x dx G' L' m₁ s₁ A' P hP hA' hm I => ?_)
  repeat' (first | walk_at "st" | walk_at "sa")
  rename St _ _ _ _ _ _ _ => I
  obtain ⟨B₁, o₁, l1, h1, ⟨nn, rfl⟩, I⟩ := I.freeze
  obtain ⟨B₂, o₂, l2, h2, rfl, I⟩ := I.freeze
  obtain ⟨g1, g2, g3, g4, g5, g6, g7, g8, g9, g10⟩ := hunk_es (w := w) (a := .int a ta) (b := .int b tb) (c := .int e te) (e := .int f tf) (rl := .ref rl) (hd := .bytes hd th)
  refine hP _ B₂ _ ([]) (l1.trans l2) I fun J => k x B₂ _ (l1.trans l2) ⟨_, ⟨dx, nn, h2, l2 _ _ h1⟩, ⟨_, g1⟩, ⟨_, g2⟩, ⟨_, g3⟩, ⟨_, g4⟩, g5, ⟨_, g6⟩, g7, g8, g9, g10⟩ J
theorem mkhunk5 {n : Nat} {a b e f : Int} {ta tb te tf : Tok} {rl : Addr} {Q : Value → Shared → Prop} (hA : Ar (n + 3) A) (hB : Amb w B) (I : St Z G B L m led s)
    (k : ∀ x B' s', Le B B' → HunkAt B' x a b e f rl #[] → St Z G B' L m led s' → Q (.ref x) s') :
    wpAny (model prog w) A (call (.ref 58) [.int a ta, .int b tb, .int e te, .int f tf, .ref rl] []) Q E s := by
  refine make_obj (lp := []) (lk := led) (f := 29) (binds := fun x => [("self", x), ("old_from", .int a ta), ("old_many", .int b tb), ("new_from", .int e te), ("new_many", .int f tf), ("rows", .ref rl), ("heading", .bytes #[] 209)]) hA I hB (by rfl) (by rfl) (by rfl) (by rfl) (by rfl)
    (fun x s' X => BindsTo.of_defaults (T := 22) rfl (X _ _ (by rfl)) rfl rfl rfl) (fun x => rfl) (fun x dx G' L' m₁ s₁ A' P hP hA' hm I => ?_)
  repeat' (first | walk_at "st" | walk_at "sa")
  rename St _ _ _ _ _ _ _ => I
  obtain ⟨B₁, o₁, l1, h1, ⟨nn, rfl⟩, I⟩ := I.freeze
  obtain ⟨B₂, o₂, l2, h2, rfl, I⟩ := I.freeze
  obtain ⟨g1, g2, g3, g4, g5, g6, g7, g8, g9, g10⟩ := hunk_es (w := w) (a := .int a ta) (b := .int b tb) (c := .int e te) (e := .int f tf) (rl := .ref rl) (hd := .bytes #[] 209)
  refine hP _ B₂ _ ([]) (l1.trans l2) I fun J => k x B₂ _ (l1.trans l2) ⟨_, ⟨dx, nn, h2, l2 _ _ h1⟩, ⟨_, g1⟩, ⟨_, g2⟩, ⟨_, g3⟩, ⟨_, g4⟩, g5, ⟨_, g6⟩, g7, g8, g9, g10⟩ J
theorem HunkAt.mono {B B' : Kn} {x : Addr} {a b e f : Int} {rl : Addr} {hd : Bt} (h : HunkAt B x a b e f rl hd) (l : Le B B') : HunkAt B' x a b e f rl hd := by
  obtain ⟨es, h1, r⟩ := h
  exact ⟨es, h1.mono l, r⟩
end

section
theorem start_spec {n : Nat} {x : Addr} {a b e f : Int} {rl : Addr} {hd : Bt} {Q : Value → Shared → Prop} (hA : Ar (n + 1) A) (hB : Amb w B) (I : St Z G B L m led s) (hH : HunkAt B x a b e f rl hd)
    (k : ∀ t s', St Z G B L m led s' → Q (.int (if b > 0 then a - 1 else a) t) s') : wpAny (model prog w) A (call (.ref 36) [.ref x]) Q E s := by
  refine call_fn (lp := []) (lk := led) (args := ⟨[.ref x], []⟩) (binds := [("self", .ref x)]) hA I hB (by rfl) (by rfl) (BindsTo.of_eq rfl) rfl (fun G' L' m₁ s₁ A' P hP hA' hm I => ?_)
  obtain ⟨es, hx, ⟨t1, g1⟩, ⟨t2, g2⟩, ⟨t3, g3⟩, ⟨t4, g4⟩, g5, ⟨t6, g6⟩, g7, g8, g9, g10⟩ := hH
  repeat' (first | walk_at "st" | walk_at "ga")
  · rename St _ _ _ _ _ _ _ => I
    rename 0 < b => hc
    exact hP _ _ B _ ([]) Le.rfl I fun J => by have := k ‹_› _ J; rwa [if_pos hc] at this
  · rename St _ _ _ _ _ _ _ => I
    rename ¬ 0 < b => hc
    exact hP _ _ B _ ([]) Le.rfl I fun J => by have := k t1 _ J; rwa [if_neg hc] at this

def sideP (sign : Bt) (rows : List (Bt × Bt)) : List Bt := (rows.filter fun r => decide (r.1 = #[32]) || decide (r.1 = sign)).map (·.2)
theorem sideP_snoc {sign : Bt} {rows : List (Bt × Bt)} {r : Bt × Bt} : sideP sign (rows ++ [r]) = sideP sign rows ++ (if (decide (r.1 = #[32]) || decide (r.1 = sign)) = true then [r.2] else []) := by
  unfold sideP
  rw [List.filter_append, List.map_append]
  congr 1
  by_cases h : (decide (r.1 = #[32]) || decide (r.1 = sign)) = true
  · rw [if_pos h]; simp only [List.filter_cons, h, if_true, List.filter_nil]; rfl
  · rw [if_neg h]; simp only [List.filter_cons, h, List.filter_nil]; rfl
theorem take_snoc {α : Type} {l : List α} {i : Nat} {x : α} (h : l[i]? = some x) : l.take (i + 1) = l.take i ++ [x] := by
  rw [List.take_add_one, h]; rfl

theorem side_spec {n : Nat} {x : Addr} {a b e f : Int} {rl : Addr} {hd : Bt} {sign : Bt} {ts : Tok} {rs : List Value} {rows : List (Bt × Bt)} {Q : Value → Shared → Prop} (hA : Ar (n + 1) A) (hB : Amb w B) (I : St Z G B L m led s) (hH : HunkAt B x a b e f rl hd)
    (hl : IsL B rl rs) (hr : All2 (RR B) rs rows) (hz : rs.length ≤ 1000)
    (k : ∀ l B' vs s', Le B B' → IsL B' l vs → All2 RB vs (sideP sign rows) → St Z G B' L m led s' → Q (.ref l) s') : wpAny (model prog w) A (call (.ref 41) [.ref x, .bytes sign ts]) Q E s := by
  refine call_fnC (lp := []) (lk := led) (args := [.ref x, .bytes sign ts]) (binds := [("self", .ref x), ("sign", .bytes sign ts)]) (x := "sign") (vx := .bytes sign ts) hA I hB (by rfl) (by rfl) (by rfl) (by rfl) (fun n => by rfl) (fun n => by rfl) (fun G' B₁ L' m₁ s₁ A' P hP hA' le₁ hcell hm I => ?_)
  have hcell : CellAt B₁ (L' + 1) (.bytes sign ts) := hcell
  have hB₁ := hB.mono le₁
  have hl := hl.mono le₁
  obtain ⟨es, hx, ⟨t1, g1⟩, ⟨t2, g2⟩, ⟨t3, g3⟩, ⟨t4, g4⟩, g5, ⟨t6, g6⟩, g7, g8, g9, g10⟩ := hH.mono le₁
  walk_at "st"
  refine e_comp (Z := Z) (cl := [(Str.ofString "sign", L' + 1)]) (fun K₉ h₉ => ?_) (by rfl)
  repeat' (first | walk_at "st" | walk_at "ga")
  rename St _ _ _ _ _ _ _ => I
  refine pi_list hA'.h I hl fun a s₃ W I hS => ?_
  refine h₉ (fun i B ys led => All2 RB ys (sideP sign (rows.take i)) ∧ led = []) hz W I hS ⟨.nil, rfl⟩ ?_ ?_
  · rintro C i v' B' ys led' G₂ mc s₄ E' KY KN hY hNx hi' hP l4 ⟨j1, rfl⟩ I
    have hB' := hB₁.mono l4
    have hc' := hcell.mono l4
    obtain ⟨⟨r1, r2⟩, hri, ⟨p, u1, u2, rfl, hp⟩⟩ := hr.get?L hP
    have hp := (hp.mono le₁).mono l4
    refine as_pair hA'.h I (hp.at I) fun s₅ I => ?_
    repeat' walk_at "st"
    · rename St _ _ _ _ _ _ _ => I
      have e : sideP sign (rows.take (i + 1)) = sideP sign (rows.take i) ++ [r2] := by rw [take_snoc hri, sideP_snoc]; simp_all
      exact hY _ _ B' _ ([]) Le.rfl ⟨by rw [e]; exact j1.app (.cons ⟨_, rfl⟩ .nil), rfl⟩ I
    · rename St _ _ _ _ _ _ _ => I
      have e : sideP sign (rows.take (i + 1)) = sideP sign (rows.take i) ++ [r2] := by rw [take_snoc hri, sideP_snoc]; simp_all
      exact hY _ _ B' _ ([]) Le.rfl ⟨by rw [e]; exact j1.app (.cons ⟨_, rfl⟩ .nil), rfl⟩ I
    · rename St _ _ _ _ _ _ _ => I
      have e : sideP sign (rows.take (i + 1)) = sideP sign (rows.take i) := by rw [take_snoc hri, sideP_snoc]; simp_all
      exact hNx _ B' _ ([]) Le.rfl ⟨by rw [e]; exact j1, rfl⟩ I
  · rintro D B' ys led' s₄ l4 ⟨j1, rfl⟩ I
    obtain ⟨B₂, l2, hD, I⟩ := I.freezeL
    rw [hr.length, List.take_length] at j1
    have le := (le₁.trans l4).trans l2
    exact hP _ _ B₂ _ _ le I fun J => k _ B₂ ys _ le hD j1 J

theorem lside_spec {n : Nat} {rl : Addr} {sign : Bt} {ts : Tok} {rs : List Value} {rows : List (Bt × Bt)} {Q : Value → Shared → Prop} (hA : Ar (n + 1) A) (hB : Amb w B) (I : St Z G B L m led s)
    (hl : IsL B rl rs) (hr : All2 (RR B) rs rows) (hz : rs.length ≤ 1000)
    (k : ∀ l B' vs s', Le B B' → IsL B' l vs → All2 RB vs (sideP sign rows) → St Z G B' L m led s' → Q (.ref l) s') : wpAny (model prog w) A (call (.ref 134) [.ref rl, .bytes sign ts]) Q E s := by
  refine call_fnC (lp := []) (lk := led) (args := [.ref rl, .bytes sign ts]) (binds := [("rows", .ref rl), ("sign", .bytes sign ts)]) (x := "sign") (vx := .bytes sign ts) hA I hB (by rfl) (by rfl) (by rfl) (by rfl) (fun n => by rfl) (fun n => by rfl) (fun G' B₁ L' m₁ s₁ A' P hP hA' le₁ hcell hm I => ?_)
  have hcell : CellAt B₁ (L' + 1) (.bytes sign ts) := hcell
  have hB₁ := hB.mono le₁
  have hl := hl.mono le₁
  walk_at "st"
  refine e_comp (Z := Z) (cl := [(Str.ofString "sign", L' + 1)]) (fun K₉ h₉ => ?_) (by rfl)
  repeat' (first | walk_at "st" | walk_at "ga")
  rename St _ _ _ _ _ _ _ => I
  refine pi_list hA'.h I hl fun a s₃ W I hS => ?_
  refine h₉ (fun i B ys led => All2 RB ys (sideP sign (rows.take i)) ∧ led = []) hz W I hS ⟨.nil, rfl⟩ ?_ ?_
  · rintro C i v' B' ys led' G₂ mc s₄ E' KY KN hY hNx hi' hP l4 ⟨j1, rfl⟩ I
    have hB' := hB₁.mono l4
    have hc' := hcell.mono l4
    obtain ⟨⟨r1, r2⟩, hri, ⟨p, u1, u2, rfl, hp⟩⟩ := hr.get?L hP
    have hp := (hp.mono le₁).mono l4
    refine as_pair hA'.h I (hp.at I) fun s₅ I => ?_
    repeat' walk_at "st"
    rename St _ _ _ _ _ _ _ => I
    refine r_newTuple I (by simp) fun t B₃ s₇ l3 ht I => ?_
    refine b_in2 I ht ?_
    have hB₃ := hB'.mono l3
    have hc₃ := hc'.mono l3
    refine tr_bool ?_
    refine if_split (fun hc => ?_) (fun hc => ?_)
    · repeat' walk_at "st"
      rename St _ _ _ _ _ _ _ => I
      have e : sideP sign (rows.take (i + 1)) = sideP sign (rows.take i) ++ [r2] := by rw [take_snoc hri, sideP_snoc, if_pos hc]
      exact hY _ _ B₃ _ ([]) l3 ⟨by rw [e]; exact j1.app (.cons ⟨_, rfl⟩ .nil), rfl⟩ I
    · have e : sideP sign (rows.take (i + 1)) = sideP sign (rows.take i) := by rw [take_snoc hri, sideP_snoc, if_neg (by rw [hc]; decide), List.append_nil]
      exact hNx _ B₃ _ ([]) l3 ⟨by rw [e]; exact j1, rfl⟩ I
  · rintro D B' ys led' s₄ l4 ⟨j1, rfl⟩ I
    obtain ⟨B₂, l2, hD, I⟩ := I.freezeL
    rw [hr.length, List.take_length] at j1
    have le := (le₁.trans l4).trans l2
    exact hP _ _ B₂ _ _ le I fun J => k _ B₂ ys _ le hD j1 J
end

section
def keptAt (rows : List (Bt × Bt)) (i : Nat) : Prop := ∃ r, rows[i]? = some r ∧ r.1 = #[32]
structure IsCtx (rows : List (Bt × Bt)) (p q : Nat) : Prop where
  c1 : p + q ≤ rows.length
  c2 : ∀ i, i < p → keptAt rows i
  c3 : p = rows.length ∨ ¬ keptAt rows p
  c4 : ∀ j, j < q → keptAt rows (rows.length - 1 - j)
  c5 : q = rows.length - p ∨ ¬ keptAt rows (rows.length - 1 - q)
theorem IsCtx.uniq {rows : List (Bt × Bt)} {p q p' q' : Nat} (h : IsCtx rows p q) (h' : IsCtx rows p' q') : p = p' ∧ q = q' := by
  have e : p = p' := by
    rcases Nat.lt_trichotomy p p' with z | z | z
    · have := h'.c2 p z
      rcases h.c3 with y | y
      · have := h'.c1; first | lia | omega
      · exact absurd this y
    · exact z
    · have := h.c2 p' z
      rcases h'.c3 with y | y
      · have := h.c1; first | lia | omega
      · exact absurd this y
  subst e
  refine ⟨rfl, ?_⟩
  rcases Nat.lt_trichotomy q q' with z | z | z
  · have := h'.c4 q z
    rcases h.c5 with y | y
    · have := h'.c1; first | lia | omega
    · exact absurd this y
  · exact z
  · have := h.c4 q' z
    rcases h'.c5 with y | y
    · have := h.c1; first | lia | omega
    · exact absurd this y

inductive WA (rows : List (Bt × Bt)) (x : Addr) (Z : Shared) (G B : Kn) (L : Addr) (k : Nat) (s' : Shared) : Prop
  | mk (i : Nat) (m' : Str → Option Value) (ti : Tok) (e : k = rows.length - i) (h : i ≤ rows.length) (j : ∀ j, j < i → keptAt rows j) (m1 : m' (Str.ofString "ahead") = some (.int (i : Nat) ti)) (m2 : m' (Str.ofString "self") = some (.ref x)) (I : St Z G B L m' [] s') : WA rows x Z G B L k s'
inductive WAm (rows : List (Bt × Bt)) (x : Addr) (Z : Shared) (G B : Kn) (L : Addr) (s' : Shared) : Prop
  | mk (i : Nat) (m' : Str → Option Value) (ti : Tok) (h : i ≤ rows.length) (j : ∀ j, j < i → keptAt rows j) (jx : i = rows.length ∨ ¬ keptAt rows i) (m1 : m' (Str.ofString "ahead") = some (.int (i : Nat) ti)) (m2 : m' (Str.ofString "self") = some (.ref x)) (I : St Z G B L m' [] s') : WAm rows x Z G B L s'
inductive WB (rows : List (Bt × Bt)) (x : Addr) (i : Nat) (ti : Tok) (Z : Shared) (G B : Kn) (L : Addr) (k : Nat) (s' : Shared) : Prop
  | mk (j : Nat) (m' : Str → Option Value) (tj : Tok) (e : k = rows.length - j) (h : i + j ≤ rows.length) (i1 : ∀ l, l < j → keptAt rows (rows.length - 1 - l)) (m1 : m' (Str.ofString "behind") = some (.int (j : Nat) tj)) (m2 : m' (Str.ofString "ahead") = some (.int (i : Nat) ti)) (m3 : m' (Str.ofString "self") = some (.ref x)) (I : St Z G B L m' [] s') : WB rows x i ti Z G B L k s'
inductive WBm (rows : List (Bt × Bt)) (x : Addr) (i : Nat) (ti : Tok) (Z : Shared) (G B : Kn) (L : Addr) (s' : Shared) : Prop
  | mk (j : Nat) (m' : Str → Option Value) (tj : Tok) (h : i + j ≤ rows.length) (i1 : ∀ l, l < j → keptAt rows (rows.length - 1 - l)) (ix : j = rows.length - i ∨ ¬ keptAt rows (rows.length - 1 - j)) (m1 : m' (Str.ofString "behind") = some (.int (j : Nat) tj)) (m2 : m' (Str.ofString "ahead") = some (.int (i : Nat) ti)) (m3 : m' (Str.ofString "self") = some (.ref x)) (I : St Z G B L m' [] s') : WBm rows x i ti Z G B L s'
theorem context_spec {n : Nat} {x : Addr} {a b e f : Int} {rl : Addr} {hd : Bt} {rs : List Value} {rows : List (Bt × Bt)} {Q : Value → Shared → Prop} (hA : Ar (n + 1) A) (hB : Amb w B) (I : St Z G B L m led s) (hH : HunkAt B x a b e f rl hd)
    (hl : IsL B rl rs) (hr : All2 (RR B) rs rows) (hz : rs.length ≤ 100)
    (k : ∀ t B' p q tp tq s', Le B B' → IsT B' t [.int (p : Nat) tp, .int (q : Nat) tq] → IsCtx rows p q → St Z G B' L m led s' → Q (.ref t) s') : wpAny (model prog w) A (call (.ref 48) [.ref x]) Q E s := by
  refine call_fn (lp := []) (lk := led) (args := ⟨[.ref x], []⟩) (binds := [("self", .ref x)]) hA I hB (by rfl) (by rfl) (BindsTo.of_eq rfl) rfl (fun G' L' m₁ s₁ A' P hP hA' hm I => ?_)
  obtain ⟨es, hx, ⟨t1, g1⟩, ⟨t2, g2⟩, ⟨t3, g3⟩, ⟨t4, g4⟩, g5, ⟨t6, g6⟩, g7, g8, g9, g10⟩ := hH
  have hlen := hr.length
  repeat' (first | walk_at "st" | walk_at "ga")
  rename St _ _ _ _ _ _ _ => I
  refine x_whilem (WA rows x Z G' B L')
    (WAm rows x Z G' B L') rows.length
    ⟨0, _, _, rfl, Nat.zero_le _, (fun j hj => nomatch hj), upd_same, by walk_at "lk", I⟩ ?_ ?_
  · rintro _ s₂ E' N₀ K₀ hW hK ⟨i, m', ti, rfl, hi, j1, m1, m2, I⟩
    repeat' (first | walk_at "st" | walk_at "ga")
    · rename St _ _ _ _ _ _ _ => I
      rename (i : Int) < _ => hc
      refine t_lget (hl.at I) (by first | lia | omega) (by first | lia | omega) (by first | lia | omega) fun v hv => ?_
      obtain ⟨⟨r1, r2⟩, hri, ⟨p, u1, u2, rfl, hp⟩⟩ := hr.get?L hv
      rw [Int.toNat_natCast] at hri
      repeat' (first | walk_at "st" | walk_at "ga")
      rename St _ _ _ _ _ _ _ => I
      refine t_tget (j := 0) I hp (by rfl) (by rfl) (by simp) ?_
      repeat' (first | walk_at "st" | walk_at "ga")
      · rename St _ _ _ _ _ _ _ => I
        rename r1 = _ => hk
        exact hW _ (rows.length - (i + 1)) (by first | lia | omega) ⟨i + 1, _, _, rfl, by first | lia | omega, (fun j hj => by rcases Nat.lt_succ_iff_lt_or_eq.mp hj with h | rfl; exact j1 j h; exact ⟨_, hri, hk⟩), upd_same, by walk_at "lk", I⟩
      · rename St _ _ _ _ _ _ _ => I
        rename ¬ r1 = _ => hk
        exact ⟨i, m', ti, hi, j1, .inr (fun ⟨r, e, h⟩ => hk (by rw [hri] at e; cases e; exact h)), m1, m2, I⟩
    · rename St _ _ _ _ _ _ _ => I
      rename ¬ (i : Int) < _ => hc
      exact ⟨i, m', ti, hi, j1, .inl (by first | lia | omega), m1, m2, I⟩
  · rintro s₂ ⟨i, m', ti, hi, j1, jx, m1, m2, I⟩
    repeat' (first | walk_at "st" | walk_at "ga")
    rename St _ _ _ _ _ _ _ => I
    refine x_whilem (WB rows x i ti Z G' B L')
      (WBm rows x i ti Z G' B L') rows.length
      ⟨0, _, _, rfl, by first | lia | omega, (fun j hj => nomatch hj), upd_same, by walk_at "lk", by walk_at "lk", I⟩ ?_ ?_
    · rintro _ s₂ E' N₀ K₀ hW hK ⟨j, m', tj, rfl, hj, i1, m1, m2, m3, I⟩
      repeat' (first | walk_at "st" | walk_at "ga")
      · rename St _ _ _ _ _ _ _ => I
        rename (j : Int) < _ => hc
        refine t_lget (hl.at I) (by first | lia | omega) (by first | lia | omega) (by first | lia | omega) fun v hv => ?_
        obtain ⟨⟨r1, r2⟩, hri, ⟨p, u1, u2, rfl, hp⟩⟩ := hr.get?L hv
        have ei : ((rs.length : Int) - 1 - (j : Int)).toNat = rows.length - 1 - j := by first | lia | omega
        rw [ei] at hri
        repeat' (first | walk_at "st" | walk_at "ga")
        rename St _ _ _ _ _ _ _ => I
        refine t_tget (j := 0) I hp (by rfl) (by rfl) (by simp) ?_
        repeat' (first | walk_at "st" | walk_at "ga")
        · rename St _ _ _ _ _ _ _ => I
          rename r1 = _ => hk
          exact hW _ (rows.length - (j + 1)) (by first | lia | omega) ⟨j + 1, _, _, rfl, by first | lia | omega, (fun l hl => by rcases Nat.lt_succ_iff_lt_or_eq.mp hl with h | rfl; exact i1 l h; exact ⟨_, hri, hk⟩), upd_same, by walk_at "lk", by walk_at "lk", I⟩
        · rename St _ _ _ _ _ _ _ => I
          rename ¬ r1 = _ => hk
          exact ⟨j, m', tj, hj, i1, .inr (fun ⟨r, e, h⟩ => hk (by rw [hri] at e; cases e; exact h)), m1, m2, m3, I⟩
      · rename St _ _ _ _ _ _ _ => I
        rename ¬ (j : Int) < _ => hc
        exact ⟨j, m', tj, hj, i1, .inl (by first | lia | omega), m1, m2, m3, I⟩
    · rintro s₃ ⟨j, m', tj, hj, i1, ix, m1, m2, m3, I⟩
      repeat' (first | walk_at "st" | walk_at "ga")
      rename St _ _ _ _ _ _ _ => I
      refine r_newTuple I (by simp) fun t B₁ s₄ l1 ht I => ?_
      exact hP _ _ B₁ _ ([]) l1 I fun J => k _ B₁ i j _ _ _ l1 ht ⟨hj, j1, jx, i1, ix⟩ J
end

section
def nk (rows : List (Bt × Bt)) (k : Nat) : Bool := match rows[k]? with | some r => !decide (r.1 = #[32]) | none => true
theorem kept_nk {rows : List (Bt × Bt)} {k : Nat} : keptAt rows k ↔ nk rows k = false := by
  unfold keptAt nk
  cases e : rows[k]? with
  | none => simp
  | some r => simp
def chg (rows : List (Bt × Bt)) (n : Nat) : List Nat := (List.range n).filter (nk rows)
theorem chg_mem {rows : List (Bt × Bt)} {n k : Nat} : k ∈ chg rows n ↔ k < n ∧ nk rows k = true := by simp [chg]
theorem chg_sorted {rows : List (Bt × Bt)} {n : Nat} : (chg rows n).Pairwise (· < ·) := List.Pairwise.filter _ List.pairwise_lt_range
theorem chg_ctx0 {rows : List (Bt × Bt)} (h : chg rows rows.length = []) : IsCtx rows rows.length 0 := by
  have hk : ∀ i, i < rows.length → keptAt rows i := fun i hi => by
    rw [kept_nk]
    cases e : nk rows i with
    | false => rfl
    | true => have := chg_mem.mpr ⟨hi, e⟩; rw [h] at this; cases this
  exact ⟨by first | lia | omega, hk, .inl rfl, (fun j hj => absurd hj (Nat.not_lt_zero _)), .inl (by first | lia | omega)⟩
theorem chg_ctx {rows : List (Bt × Bt)} {a z : Nat} {l l' : List Nat} (h : chg rows rows.length = a :: l) (h' : chg rows rows.length = l' ++ [z]) : IsCtx rows a (rows.length - 1 - z) ∧ z < rows.length := by
  have s := chg_sorted (rows := rows) (n := rows.length)
  have ma := chg_mem.mp (show a ∈ chg rows rows.length by rw [h]; exact .head _)
  have mz := chg_mem.mp (show z ∈ chg rows rows.length by rw [h']; simp)
  have lo : ∀ k, k ∈ chg rows rows.length → a ≤ k := fun k hk => by
    rw [h] at s hk
    rcases List.mem_cons.mp hk with rfl | hk
    · exact Nat.le_refl _
    · exact Nat.le_of_lt ((List.pairwise_cons.mp s).1 k hk)
  have hi : ∀ k, k ∈ chg rows rows.length → k ≤ z := fun k hk => by
    rw [h'] at s hk
    rcases List.mem_append.mp hk with hk | hk
    · exact Nat.le_of_lt ((List.pairwise_append.mp s).2.2 k hk z (.head _))
    · simp at hk; first | lia | omega
  have az := lo z (chg_mem.mpr mz)
  refine ⟨⟨by first | lia | omega, fun i hlt => ?_, .inr (fun q => ?_), fun j hj => ?_, .inr (fun q => ?_)⟩, mz.1⟩
  · rw [kept_nk]
    cases e : nk rows i with
    | false => rfl
    | true => have := lo i (chg_mem.mpr ⟨by first | lia | omega, e⟩); first | lia | omega
  · rw [kept_nk, ma.2] at q; cases q
  · rw [kept_nk]
    cases e : nk rows (rows.length - 1 - j) with
    | false => rfl
    | true => have := hi _ (chg_mem.mpr ⟨by first | lia | omega, e⟩); first | lia | omega
  · have : rows.length - 1 - (rows.length - 1 - z) = z := by first | lia | omega
    rw [this, kept_nk, mz.2] at q; cases q
theorem chg_snoc {rows : List (Bt × Bt)} {n : Nat} : chg rows (n + 1) = chg rows n ++ (if nk rows n = true then [n] else []) := by
  unfold chg
  rw [List.range_succ, List.filter_append]
  congr 1
  by_cases h : nk rows n = true
  · rw [if_pos h]; simp [h]
  · rw [if_neg h]; simp [h]
def RN (v : Value) (k : Nat) : Prop := ∃ t, v = .int (k : Nat) t
theorem All2.toI {ys : List Value} {ks : List Nat} (h : All2 RN ys ks) : All2 RI ys (ks.map fun (k : Nat) => (k : Int)) := by
  induction h with
  | nil => exact .nil
  | cons hd _ ih => exact .cons hd ih

theorem kept_spec {n : Nat} {rl : Addr} {rs : List Value} {rows : List (Bt × Bt)} {Q : Value → Shared → Prop} (hA : Ar (n + 1) A) (hB : Amb w B) (I : St Z G B L m led s)
    (hl : IsL B rl rs) (hr : All2 (RR B) rs rows) (hz : rs.length ≤ 100)
    (k : ∀ t B' p q tp tq s', Le B B' → IsT B' t [.int (p : Nat) tp, .int (q : Nat) tq] → IsCtx rows p q → St Z G B' L m led s' → Q (.ref t) s') : wpAny (model prog w) A (call (.ref 139) [.ref rl]) Q E s := by
  refine call_fnC (lp := []) (lk := led) (args := [.ref rl]) (binds := [("rows", .ref rl)]) (x := "rows") (vx := .ref rl) hA I hB (by rfl) (by rfl) (by rfl) (by rfl) (fun n => by rfl) (fun n => by rfl) (fun G' B₁ L' m₁ s₁ A' P hP hA' le₁ hcell hm I => ?_)
  have hcell : CellAt B₁ (L' + 1) (.ref rl) := hcell
  have hB₁ := hB.mono le₁
  have hl := hl.mono le₁
  have hlen := hr.length
  refine x_comp (Z := Z) (cl := [(Str.ofString "rows", L' + 1)]) (fun K₉ h₉ => ?_) (by rfl)
  repeat' (first | walk_at "st" | walk_at "ga")
  rename St _ _ _ _ _ _ _ => I
  refine pi_range1 hA'.h I (by first | lia | omega) fun a s₃ W I hS => ?_
  refine h₉ (fun i B ys led => All2 RN ys (chg rows i) ∧ led = []) (by first | lia | omega) W I hS ⟨.nil, rfl⟩ ?_ ?_
  · rintro C i v' B' ys led' G₂ mc s₄ E' KY KN hY hNx hi' ⟨tv, rfl⟩ l4 ⟨j1, rfl⟩ I
    have hB' := hB₁.mono l4
    have hc' := hcell.mono l4
    have hl' := hl.mono l4
    repeat' (first | walk_at "st" | walk_at "ga")
    rename St _ _ _ _ _ _ _ => I
    refine t_lget (hl'.at I) (by first | lia | omega) (by first | lia | omega) (by first | lia | omega) fun v hv => ?_
    obtain ⟨⟨r1, r2⟩, hri, ⟨p, u1, u2, rfl, hp⟩⟩ := hr.get?L hv
    have hp := (hp.mono le₁).mono l4
    rw [Int.toNat_natCast] at hri
    repeat' (first | walk_at "st" | walk_at "ga")
    rename St _ _ _ _ _ _ _ => I
    refine t_tget (j := 0) I hp (by rfl) (by rfl) (by simp) ?_
    repeat' (first | walk_at "st" | walk_at "ga")
    · rename St _ _ _ _ _ _ _ => I
      rename ¬ r1 = _ => hk
      have e : chg rows (i + 1) = chg rows i ++ [i] := by rw [chg_snoc, if_pos (by simp [nk, hri, hk])]
      exact hY _ _ B' _ ([]) Le.rfl ⟨by rw [e]; exact j1.app (.cons ⟨_, rfl⟩ .nil), rfl⟩ I
    · rename St _ _ _ _ _ _ _ => I
      rename r1 = _ => hk
      have e : chg rows (i + 1) = chg rows i := by rw [chg_snoc, if_neg (by simp [nk, hri, hk]), List.append_nil]
      exact hNx _ B' _ ([]) Le.rfl ⟨by rw [e]; exact j1, rfl⟩ I
  · rintro D B' ys led' s₄ l4 ⟨j1, rfl⟩ I
    have hB' := hB₁.mono l4
    have hc' := hcell.mono l4
    have hl' := hl.mono l4
    have en : (rs.length : Int).toNat = rows.length := by first | lia | omega
    rw [en] at j1
    repeat' (first | walk_at "st" | walk_at "ga")
    rename St _ _ _ _ _ _ _ => I
    refine r_ne_lists eqR_I (hA'.in1) I.swap.headP I.headP j1.toI .nil ?_
    have I := I.drop
    refine tr_bool ?_
    refine if_split (fun hc => ?_) (fun hc => ?_)
    · have hne : chg rows rows.length ≠ [] := by intro z; rw [z] at hc; simp at hc
      obtain ⟨a, l, h1⟩ : ∃ a l, chg rows rows.length = a :: l := by cases h : chg rows rows.length with | nil => exact absurd h hne | cons a l => exact ⟨a, l, rfl⟩
      obtain ⟨ys', l', y, z, e1, h2, j2, ⟨tz, ez⟩⟩ := j1.last hne
      obtain ⟨C, hz'⟩ := chg_ctx h1 h2
      have lys := j1.length
      have lks : (chg rows rows.length).length ≤ rows.length := by
        have := List.length_filter_le (nk rows) (List.range rows.length)
        rw [List.length_range] at this; exact this
      have pos : 0 < ys.length := by rw [lys, h1]; simp
      repeat' (first | walk_at "st" | walk_at "ga")
      rename St _ _ _ _ _ _ _ => I
      refine t_lget I.headP (by first | lia | omega) (by first | lia | omega) (by first | lia | omega) fun v hv => ?_
      obtain ⟨k₀, hk₀, ⟨tk, rfl⟩⟩ := j1.get?L hv
      have : k₀ = a := by rw [h1] at hk₀; simpa using hk₀.symm
      subst this
      repeat' (first | walk_at "st" | walk_at "ga")
      rename St _ _ _ _ _ _ _ => I
      have hh := I.headP
      rw [e1] at hh
      refine t_llast (its := ys') (x := y) rfl hh (by have := congrArg List.length e1; simp at this; first | lia | omega) ?_
      rw [ez]
      repeat' (first | walk_at "st" | walk_at "ga")
      rename St _ _ _ _ _ _ _ => I
      refine r_newTuple I (by simp) fun t B₂ s₄ l2 ht I => ?_
      have eq : ((rs.length : Int) - 1 - (z : Int)) = ((rows.length - 1 - z : Nat) : Int) := by first | lia | omega
      rw [eq] at ht
      have le := (le₁.trans l4).trans l2
      exact hP _ _ B₂ _ _ le (I.drop (led := [])) fun J => k _ B₂ _ _ _ _ _ le ht C J
    · have hne : chg rows rows.length = [] := by simpa using hc
      repeat' (first | walk_at "st" | walk_at "ga")
      rename St _ _ _ _ _ _ _ => I
      refine r_newTuple I (by simp) fun t B₂ s₄ l2 ht I => ?_
      rw [hlen] at ht
      have le := (le₁.trans l4).trans l2
      exact hP _ _ B₂ _ _ le (I.drop (led := [])) fun J => k _ B₂ _ 0 _ _ _ le ht (chg_ctx0 hne) J
end

section
abbrev Rw := Bt × Bt
abbrev TS := List Rw × List Rw × List Rw
def tstep (s : TS) (r : Rw) : TS := if r.1 = #[45] then (s.1, s.2.1, s.2.2 ++ [(#[43], r.2)]) else if r.1 = #[43] then (s.1, s.2.1 ++ [(#[45], r.2)], s.2.2) else (s.1 ++ s.2.1 ++ s.2.2 ++ [r], [], [])
def tfold (rows : List Rw) : TS := rows.foldl tstep ([], [], [])
def turnedP (rows : List Rw) : List Rw := (tfold rows).1 ++ (tfold rows).2.1 ++ (tfold rows).2.2
theorem tfold_snoc {rows : List Rw} {r : Rw} : tfold (rows ++ [r]) = tstep (tfold rows) r := by unfold tfold; rw [List.foldl_append]; rfl
theorem tstep_len {s : TS} {r : Rw} : (tstep s r).1.length + (tstep s r).2.1.length + (tstep s r).2.2.length = s.1.length + s.2.1.length + s.2.2.length + 1 := by
  unfold tstep
  split
  · simp; omega
  · split
    · simp; omega
    · simp; omega
theorem tfold_len {rows : List Rw} : (tfold rows).1.length + (tfold rows).2.1.length + (tfold rows).2.2.length = rows.length := by
  have : ∀ (l : List Rw) (s : TS), (l.foldl tstep s).1.length + (l.foldl tstep s).2.1.length + (l.foldl tstep s).2.2.length = s.1.length + s.2.1.length + s.2.2.length + l.length := by
    intro l
    induction l with
    | nil => intro s; rfl
    | cons r l ih => intro s; rw [List.foldl_cons, ih, tstep_len]; simp; omega
  have := this rows ([], [], [])
  simpa [tfold] using this
theorem turnedP_len {rows : List Rw} : (turnedP rows).length = rows.length := by
  have := tfold_len (rows := rows)
  simp [turnedP]; omega

theorem row_or {rs : List Value} {rows : List Rw} {pN : Addr} {tN : Tok} {i : Nat} {v : Value} (hr : All2 (RR B) rs rows) (hN : IsT B pN [.bytes #[32] tN, .none]) (h : (rs ++ [Value.ref pN])[i]? = some v) :
    ∃ p sg t lv, v = .ref p ∧ IsT B p [.bytes sg t, lv] ∧ ((∃ r2 u, i < rows.length ∧ lv = .bytes r2 u ∧ rows[i]? = some (sg, r2)) ∨ (i = rows.length ∧ sg = #[32] ∧ lv = .none)) := by
  by_cases hi : i < rs.length
  · rw [List.getElem?_append_left hi] at h
    obtain ⟨⟨r1, r2⟩, hri, ⟨p, u1, u2, rfl, hp⟩⟩ := hr.get?L h
    exact ⟨p, r1, u1, _, rfl, hp, .inl ⟨r2, u2, hr.length ▸ hi, rfl, hri⟩⟩
  · rw [List.getElem?_append_right (by omega)] at h
    have : i - rs.length = 0 := by
      cases q : i - rs.length with
      | zero => rfl
      | succ k => rw [q] at h; simp at h
    rw [this] at h
    simp at h
    subst h
    exact ⟨pN, _, tN, _, rfl, hN, .inr ⟨by rw [← hr.length]; omega, rfl, rfl⟩⟩

def TurnJ (B : Kn) (rows : List Rw) (i : Nat) (R G C : List Value) : Prop :=
  (i ≤ rows.length → All2 (RR B) R (tfold (rows.take i)).1 ∧ All2 (RR B) G (tfold (rows.take i)).2.1 ∧ All2 (RR B) C (tfold (rows.take i)).2.2) ∧
  (rows.length < i → ∃ R' y, R = R' ++ [y] ∧ All2 (RR B) R' (turnedP rows))
theorem TurnJ.mono {B B' : Kn} {rows : List Rw} {i : Nat} {R G C : List Value} (h : TurnJ B rows i R G C) (l : Le B B') : TurnJ B' rows i R G C :=
  ⟨fun hi => ⟨(h.1 hi).1.imp fun _ _ q => q.mono l, (h.1 hi).2.1.imp fun _ _ q => q.mono l, (h.1 hi).2.2.imp fun _ _ q => q.mono l⟩, fun hi => let ⟨R', y, e, q⟩ := h.2 hi; ⟨R', y, e, q.imp fun _ _ q => q.mono l⟩⟩
theorem TurnJ.len {rows : List Rw} {i : Nat} {R G C : List Value} (h : TurnJ B rows i R G C) (hi : i ≤ rows.length) : R.length + G.length + C.length = i := by
  obtain ⟨a, b, c⟩ := h.1 hi
  have := tfold_len (rows := rows.take i)
  rw [a.length, b.length, c.length, this, List.length_take]; omega

theorem cut_last {α : Type} {l : List α} {x : α} : cutL (l ++ [x]) none (some (-1)) = l := by
  unfold cutL
  have : clipAt (l ++ [x]).length (-1) = l.length := by unfold clipAt; simp; omega
  simp only [Option.elim, this]
  simp
inductive TJ (rows : List Rw) (x : Addr) (i : Nat) (B' : Kn) (m' : Str → Option Value) (led' : Led) : Prop
  | mk (ra ga ca : Addr) (R G C : List Value) (e : led' = [(ra, LP R), (ga, LP G), (ca, LP C)]) (j : TurnJ B' rows i R G C) (m1 : m' (Str.ofString "rows") = some (.ref ra)) (m2 : m' (Str.ofString "gone") = some (.ref ga)) (m3 : m' (Str.ofString "come") = some (.ref ca)) (m4 : m' (Str.ofString "self") = some (.ref x)) : TJ rows x i B' m' led'
theorem turned_spec {n : Nat} {x : Addr} {a b e f : Int} {rl : Addr} {hd : Bt} {rs : List Value} {rows : List Rw} {Q : Value → Shared → Prop} (hA : Ar (n + 5) A) (hB : Amb w B) (I : St Z G B L m led s) (hH : HunkAt B x a b e f rl hd)
    (hl : IsL B rl rs) (hr : All2 (RR B) rs rows) (hz : rs.length ≤ 100)
    (k : ∀ y rl' rs' B' s', Le B B' → HunkAt B' y e f a b rl' hd → IsL B' rl' rs' → All2 (RR B') rs' (turnedP rows) → St Z G B' L m led s' → Q (.ref y) s') : wpAny (model prog w) A (call (.ref 55) [.ref x]) Q E s := by
  refine call_fn (lp := []) (lk := led) (args := ⟨[.ref x], []⟩) (binds := [("self", .ref x)]) hA I hB (by rfl) (by rfl) (BindsTo.of_eq rfl) rfl (fun G' L' m₁ s₁ A' P hP hA' hm I => ?_)
  obtain ⟨es, hx, ⟨t1, g1⟩, ⟨t2, g2⟩, ⟨t3, g3⟩, ⟨t4, g4⟩, g5, ⟨t6, g6⟩, g7, g8, g9, g10⟩ := hH
  have hlen := hr.length
  walk_at "st"
  walk_at "st"
  walk_at "st"
  rename St _ _ _ _ _ _ _ => I
  refine e_list_nil I fun ra s₂ I => ?_
  walk_at "st"
  rename St _ _ _ _ _ _ _ => I
  refine e_list_nil I fun ga s₃ I => ?_
  walk_at "st"
  rename St _ _ _ _ _ _ _ => I
  refine e_list_nil I fun ca s₄ I => ?_
  walk_at "st"
  rename St _ _ _ _ _ _ _ => I
  refine r_newTuple I (by simp) fun t B₁ s₅ l1 ht I => ?_
  have hB₁ := hB.mono l1
  have hx₁ := hx.mono l1
  refine HkT.go (by assumption) hA' ht I fun s₆ I => ?_
  repeat' walk_at "st"
  refine x_for fun K₀ hF hR => ?_
  repeat' (first | walk_at "st" | walk_at "ga")
  rename St _ _ _ _ _ _ _ => I
  refine r_newTuple I (by simp) fun pN B₂ s₇ l2 hN I => ?_
  have hB₂ := hB₁.mono l2
  repeat' (first | walk_at "st" | walk_at "ga")
  rename St _ _ _ _ _ _ _ => I
  refine r_newListK I (by simp) fun ln B₃ s₈ l3 hln I => ?_
  have hB₃ := hB₂.mono l3
  refine r_addL I ((hl.mono ((l1.trans l2).trans l3)).at I) (hln.at I) (by simp; omega) fun al s₉ I => ?_
  obtain ⟨B₄, l4, hal, I⟩ := I.freezeL
  have hB₄ := hB₃.mono l4
  have le₄ := ((l1.trans l2).trans l3).trans l4
  refine pi_list hA'.h I hal fun a' s₄ W I hS => ?_
  refine loop_core W (TJ rows x) (I.perm ?_) hS
    ⟨ra, ga, ca, [], [], [], rfl, ⟨fun _ => ⟨.nil, .nil, .nil⟩, fun h => absurd h (Nat.not_lt_zero _)⟩, by walk_at "lk", by walk_at "lk", by walk_at "lk", by walk_at "lk"⟩ ?_ ?_
  · exact .cons _ ((List.reverse_perm [(ca, LP []), (ga, LP []), (ra, LP [])]).symm)
  · rintro i v B₅ m' led' G₂ s₅ E' P₂ hNx hR₂ hi' hP l5 ⟨ra, ga, ca, R, Gn, C, rfl, j1, m1, m2, m3, m4⟩ I
    have hB₅ := hB₄.mono l5
    obtain ⟨p, sg, tg', lv, rfl, hp, hcase⟩ := row_or (hr.imp fun _ _ q => q.mono (le₄.trans l5)) (hN.mono ((l3.trans l4).trans l5)) hP
    refine as_pair hA'.h I (hp.at I) fun s₅ I => ?_
    repeat' walk_at "st"
    · rename St _ _ _ _ _ _ _ => I
      rename sg = _ => hc
      have hi : i < rows.length ∧ ∃ r2 u, lv = .bytes r2 u ∧ rows[i]? = some (sg, r2) := by
        rcases hcase with ⟨r2, u, h1, h2, h3⟩ | ⟨_, h, _⟩
        · exact ⟨h1, r2, u, h2, h3⟩
        · rw [hc] at h; simp at h
      obtain ⟨hi, r2, u, rfl, hri⟩ := hi
      have hln := j1.len (by omega)
      have I := I.dn2
      refine m_append fun K₁ h₁ => ?_
      walk_at "st"
      rename St _ _ _ _ _ _ _ => I
      refine h₁ I ?_
      repeat' walk_at "st"
      rename St _ _ _ _ _ _ _ => I
      refine r_newTuple I (by simp) fun t B₆ s₇ l6 ht I => ?_
      refine r_append I (by omega) fun s₈ I => ?_
      refine HkN.go (by assumption) ?_
      repeat' walk_at "st"
      rename St _ _ _ _ _ _ _ => I
      refine hNx _ B₆ _ _ l6 ⟨ra, ga, ca, R, Gn, _, rfl, ⟨fun h => ?_, fun h => absurd h (by omega)⟩, by walk_at "lk", by walk_at "lk", by walk_at "lk", by walk_at "lk"⟩ I.up2
      obtain ⟨a1, a2, a3⟩ := (j1.mono l6).1 (by omega)
      rw [take_snoc hri, tfold_snoc]
      unfold tstep
      rw [if_pos hc]
      exact ⟨a1, a2, a3.app (.cons ⟨t, _, _, rfl, ht⟩ .nil)⟩
    · rename St _ _ _ _ _ _ _ => I
      rename ¬ sg = _ => hc'
      rename sg = _ => hc
      have hi : i < rows.length ∧ ∃ r2 u, lv = .bytes r2 u ∧ rows[i]? = some (sg, r2) := by
        rcases hcase with ⟨r2, u, h1, h2, h3⟩ | ⟨_, h, _⟩
        · exact ⟨h1, r2, u, h2, h3⟩
        · rw [hc] at h; simp at h
      obtain ⟨hi, r2, u, rfl, hri⟩ := hi
      have hln := j1.len (by omega)
      have I := I.swap
      refine m_append fun K₁ h₁ => ?_
      walk_at "st"
      rename St _ _ _ _ _ _ _ => I
      refine h₁ I ?_
      repeat' walk_at "st"
      rename St _ _ _ _ _ _ _ => I
      refine r_newTuple I (by simp) fun t B₆ s₇ l6 ht I => ?_
      refine r_append I (by omega) fun s₈ I => ?_
      refine HkN.go (by assumption) ?_
      repeat' walk_at "st"
      rename St _ _ _ _ _ _ _ => I
      refine hNx _ B₆ _ _ l6 ⟨ra, ga, ca, R, _, C, rfl, ⟨fun h => ?_, fun h => absurd h (by omega)⟩, by walk_at "lk", by walk_at "lk", by walk_at "lk", by walk_at "lk"⟩ I.swap
      obtain ⟨a1, a2, a3⟩ := (j1.mono l6).1 (by omega)
      rw [take_snoc hri, tfold_snoc]
      unfold tstep
      rw [if_neg hc', if_pos hc]
      exact ⟨a1, a2.app (.cons ⟨t, _, _, rfl, ht⟩ .nil), a3⟩
    · rename St _ _ _ _ _ _ _ => I
      rename ¬ sg = #[45] => hc'
      rename ¬ sg = #[43] => hc
      have hi : i ≤ rows.length := by simp at hi'; omega
      have hln := j1.len (by omega)
      refine m_extend fun K₁ h₁ => ?_
      walk_at "st"
      rename St _ _ _ _ _ _ _ => I
      refine h₁ I ?_
      repeat' walk_at "st"
      rename St _ _ _ _ _ _ _ => I
      refine r_extend I (by omega) fun s₈ I => ?_
      refine HkN.go (by assumption) ?_
      have I := I.up1
      walk_at "st"
      refine m_extend fun K₁ h₁ => ?_
      walk_at "st"
      rename St _ _ _ _ _ _ _ => I
      refine h₁ I ?_
      repeat' walk_at "st"
      rename St _ _ _ _ _ _ _ => I
      refine r_extend I (by simp; omega) fun s₉ I => ?_
      refine HkN.go (by assumption) ?_
      walk_at "st"
      refine m_append fun K₁ h₁ => ?_
      walk_at "st"
      rename St _ _ _ _ _ _ _ => I
      refine h₁ I ?_
      repeat' walk_at "st"
      rename St _ _ _ _ _ _ _ => I
      refine r_newTuple I (by simp) fun t B₆ s₇ l6 ht I => ?_
      refine r_append I (by simp; omega) fun s₈ I => ?_
      refine HkN.go (by assumption) ?_
      walk_at "st"
      walk_at "st"
      walk_at "st"
      rename St _ _ _ _ _ _ _ => I
      refine e_list_nil I fun ga' s₃ I => ?_
      walk_at "st"
      rename St _ _ _ _ _ _ _ => I
      refine e_list_nil I fun ca' s₄ I => ?_
      walk_at "st"
      rename St _ _ _ _ _ _ _ => I
      refine r_newTuple I (by simp) fun tt B₇ s₅ l7 htt I => ?_
      refine HkT.go (by assumption) hA' htt I fun s₆ I => ?_
      repeat' walk_at "st"
      rename St _ _ _ _ _ _ _ => I
      have I := (I.perm (List.reverse_perm _).symm).drop.drop
      refine hNx _ B₇ _ _ (l6.trans l7) ⟨ra, ga', ca', _, _, _, rfl, ⟨fun h => ?_, fun h => ?_⟩, by walk_at "lk", by walk_at "lk", by walk_at "lk", by walk_at "lk"⟩ I
      · obtain ⟨a1, a2, a3⟩ := (j1.mono (l6.trans l7)).1 hi
        obtain ⟨r2, u, rfl, hri⟩ : ∃ r2 u, lv = .bytes r2 u ∧ rows[i]? = some (sg, r2) := by
          rcases hcase with ⟨r2, u, h1, h2, h3⟩ | ⟨hh, _, _⟩
          · exact ⟨r2, u, h2, h3⟩
          · omega
        rw [take_snoc hri, tfold_snoc]
        unfold tstep
        rw [if_neg hc', if_neg hc]
        exact ⟨((a1.app a2).app a3).app (.cons ⟨t, _, _, rfl, ht.mono l7⟩ .nil), .nil, .nil⟩
      · have hii : i = rows.length := by omega
        obtain ⟨a1, a2, a3⟩ := (j1.mono (l6.trans l7)).1 hi
        rw [hii, List.take_length] at a1 a2 a3
        exact ⟨_, _, rfl, (a1.app a2).app a3⟩
  · rintro B₅ m' led' s₅ l5 ⟨ra, ga, ca, R, Gn, C, rfl, j1, m1, m2, m3, m4⟩ I
    have hB₅ := hB₄.mono l5
    obtain ⟨R', y, rfl, hR⟩ := j1.2 (by simp; omega)
    have hx₅ := hx.mono (le₄.trans l5)
    repeat' (first | walk_at "st" | walk_at "ga")
    rename St _ _ _ _ _ _ _ => I
    refine e_slice fun K₁ h₁ => ?_
    repeat' walk_at "st"
    rename St _ _ _ _ _ _ _ => I
    have hRl := hR.length
    rw [turnedP_len] at hRl
    refine h₁ I.headP (by simp; omega) .none (.int _ _) I fun cl s₆ I => ?_
    rw [cut_last] at I
    obtain ⟨B₆, l6, hcl, I⟩ := I.freezeL
    have hB₆ := hB₅.mono l6
    have hx₆ := hx₅.mono l6
    repeat' (first | walk_at "st" | walk_at "ga")
    rename St _ _ _ _ _ _ _ => I
    refine mkhunk6 (n := n) hA'.dn hB₆ I fun y B₇ s₇ l7 hy I => ?_
    have le := ((le₄.trans l5).trans l6).trans l7
    exact hP _ _ B₇ _ _ le (I.drop.drop.drop (led := [])) fun J => k y cl R' B₇ _ le hy (hcl.mono l7) (hR.imp fun _ _ q => q.mono (l6.trans l7)) J
end

section
def TurnL (B : Kn) (rows : List Rw) (i : Nat) (R G C : List Value) : Prop :=
  (i ≤ rows.length → All2 (RR B) R (tfold (rows.take i)).1 ∧ All2 (RR B) G (tfold (rows.take i)).2.1 ∧ All2 (RR B) C (tfold (rows.take i)).2.2) ∧
  (rows.length < i → All2 (RR B) R (turnedP rows))
theorem TurnL.mono {B B' : Kn} {rows : List Rw} {i : Nat} {R G C : List Value} (h : TurnL B rows i R G C) (l : Le B B') : TurnL B' rows i R G C :=
  ⟨fun hi => ⟨(h.1 hi).1.imp fun _ _ q => q.mono l, (h.1 hi).2.1.imp fun _ _ q => q.mono l, (h.1 hi).2.2.imp fun _ _ q => q.mono l⟩, fun hi => (h.2 hi).imp fun _ _ q => q.mono l⟩
theorem TurnL.len {rows : List Rw} {i : Nat} {R G C : List Value} (h : TurnL B rows i R G C) (hi : i ≤ rows.length) : R.length + G.length + C.length = i := by
  obtain ⟨a, b, c⟩ := h.1 hi
  have := tfold_len (rows := rows.take i)
  rw [a.length, b.length, c.length, this, List.length_take]; omega

inductive TK (rows : List Rw) (i : Nat) (B' : Kn) (m' : Str → Option Value) (led' : Led) : Prop
  | mk (ra ga ca : Addr) (R G C : List Value) (e : led' = [(ra, LP R), (ga, LP G), (ca, LP C)]) (j : TurnL B' rows i R G C) (m1 : m' (Str.ofString "found") = some (.ref ra)) (m2 : m' (Str.ofString "out") = some (.ref ga)) (m3 : m' (Str.ofString "fresh") = some (.ref ca)) : TK rows i B' m' led'
theorem lturned_spec {n : Nat} {rl : Addr} {rs : List Value} {rows : List Rw} {Q : Value → Shared → Prop} (hA : Ar (n + 5) A) (hB : Amb w B) (I : St Z G B L m led s)
    (hl : IsL B rl rs) (hr : All2 (RR B) rs rows) (hz : rs.length ≤ 100)
    (k : ∀ rl' rs' B' s', Le B B' → IsL B' rl' rs' → All2 (RR B') rs' (turnedP rows) → St Z G B' L m led s' → Q (.ref rl') s') : wpAny (model prog w) A (call (.ref 146) [.ref rl]) Q E s := by
  refine call_fn (lp := []) (lk := led) (args := ⟨[.ref rl], []⟩) (binds := [("rows", .ref rl)]) hA I hB (by rfl) (by rfl) (BindsTo.of_eq rfl) rfl (fun G' L' m₁ s₁ A' P hP hA' hm I => ?_)
  have hlen := hr.length
  walk_at "st"
  walk_at "st"
  walk_at "st"
  rename St _ _ _ _ _ _ _ => I
  refine e_list_nil I fun ra s₂ I => ?_
  walk_at "st"
  rename St _ _ _ _ _ _ _ => I
  refine e_list_nil I fun ga s₃ I => ?_
  walk_at "st"
  rename St _ _ _ _ _ _ _ => I
  refine e_list_nil I fun ca s₄ I => ?_
  walk_at "st"
  rename St _ _ _ _ _ _ _ => I
  refine r_newTuple I (by simp) fun t B₁ s₅ l1 ht I => ?_
  have hB₁ := hB.mono l1
  refine HkT.go (by assumption) hA' ht I fun s₆ I => ?_
  repeat' walk_at "st"
  refine x_for fun K₀ hF hR => ?_
  repeat' (first | walk_at "st" | walk_at "ga")
  rename St _ _ _ _ _ _ _ => I
  refine r_newTuple I (by simp) fun pN B₂ s₇ l2 hN I => ?_
  have hB₂ := hB₁.mono l2
  repeat' (first | walk_at "st" | walk_at "ga")
  rename St _ _ _ _ _ _ _ => I
  refine r_newListK I (by simp) fun ln B₃ s₈ l3 hln I => ?_
  have hB₃ := hB₂.mono l3
  refine r_addL I ((hl.mono ((l1.trans l2).trans l3)).at I) (hln.at I) (by simp; omega) fun al s₉ I => ?_
  obtain ⟨B₄, l4, hal, I⟩ := I.freezeL
  have hB₄ := hB₃.mono l4
  have le₄ := ((l1.trans l2).trans l3).trans l4
  refine pi_list hA'.h I hal fun a' s₄ W I hS => ?_
  refine loop_core W (TK rows) (I.perm ?_) hS
    ⟨ra, ga, ca, [], [], [], rfl, ⟨fun _ => ⟨.nil, .nil, .nil⟩, fun h => absurd h (Nat.not_lt_zero _)⟩, by walk_at "lk", by walk_at "lk", by walk_at "lk"⟩ ?_ ?_
  · exact .cons _ ((List.reverse_perm [(ca, LP []), (ga, LP []), (ra, LP [])]).symm)
  · rintro i v B₅ m' led' G₂ s₅ E' P₂ hNx hR₂ hi' hP l5 ⟨ra, ga, ca, R, Gn, C, rfl, j1, m1, m2, m3⟩ I
    have hB₅ := hB₄.mono l5
    obtain ⟨p, sg, tg', lv, rfl, hp, hcase⟩ := row_or (hr.imp fun _ _ q => q.mono (le₄.trans l5)) (hN.mono ((l3.trans l4).trans l5)) hP
    refine as_pair hA'.h I (hp.at I) fun s₅ I => ?_
    repeat' walk_at "st"
    · rename St _ _ _ _ _ _ _ => I
      rename sg = _ => hc
      have hi : i < rows.length ∧ ∃ r2 u, lv = .bytes r2 u ∧ rows[i]? = some (sg, r2) := by
        rcases hcase with ⟨r2, u, h1, h2, h3⟩ | ⟨_, h, _⟩
        · exact ⟨h1, r2, u, h2, h3⟩
        · rw [hc] at h; simp at h
      obtain ⟨hi, r2, u, rfl, hri⟩ := hi
      have hln := j1.len (by omega)
      have I := I.swap
      refine m_append fun K₁ h₁ => ?_
      walk_at "st"
      rename St _ _ _ _ _ _ _ => I
      refine h₁ I ?_
      repeat' walk_at "st"
      rename St _ _ _ _ _ _ _ => I
      refine r_newTuple I (by simp) fun t B₆ s₇ l6 ht I => ?_
      refine r_append I (by omega) fun s₈ I => ?_
      refine HkN.go (by assumption) ?_
      repeat' walk_at "st"
      rename St _ _ _ _ _ _ _ => I
      refine hNx _ B₆ _ _ l6 ⟨ra, ga, ca, R, _, C, rfl, ⟨fun h => ?_, fun h => absurd h (by omega)⟩, by walk_at "lk", by walk_at "lk", by walk_at "lk"⟩ I.swap
      obtain ⟨a1, a2, a3⟩ := (j1.mono l6).1 (by omega)
      rw [take_snoc hri, tfold_snoc]
      unfold tstep
      rw [if_neg (by show ¬ sg = _; rw [hc]; decide), if_pos hc]
      exact ⟨a1, a2.app (.cons ⟨t, _, _, rfl, ht⟩ .nil), a3⟩
    · rename St _ _ _ _ _ _ _ => I
      rename sg = _ => hc
      have hi : i < rows.length ∧ ∃ r2 u, lv = .bytes r2 u ∧ rows[i]? = some (sg, r2) := by
        rcases hcase with ⟨r2, u, h1, h2, h3⟩ | ⟨_, h, _⟩
        · exact ⟨h1, r2, u, h2, h3⟩
        · rw [hc] at h; simp at h
      obtain ⟨hi, r2, u, rfl, hri⟩ := hi
      have hln := j1.len (by omega)
      have I := I.dn2
      refine m_append fun K₁ h₁ => ?_
      walk_at "st"
      rename St _ _ _ _ _ _ _ => I
      refine h₁ I ?_
      repeat' walk_at "st"
      rename St _ _ _ _ _ _ _ => I
      refine r_newTuple I (by simp) fun t B₆ s₇ l6 ht I => ?_
      refine r_append I (by omega) fun s₈ I => ?_
      refine HkN.go (by assumption) ?_
      repeat' walk_at "st"
      rename St _ _ _ _ _ _ _ => I
      refine hNx _ B₆ _ _ l6 ⟨ra, ga, ca, R, Gn, _, rfl, ⟨fun h => ?_, fun h => absurd h (by omega)⟩, by walk_at "lk", by walk_at "lk", by walk_at "lk"⟩ I.up2
      obtain ⟨a1, a2, a3⟩ := (j1.mono l6).1 (by omega)
      rw [take_snoc hri, tfold_snoc]
      unfold tstep
      rw [if_pos hc]
      exact ⟨a1, a2, a3.app (.cons ⟨t, _, _, rfl, ht⟩ .nil)⟩
    · rename St _ _ _ _ _ _ _ => I
      rename ¬ sg = #[43] => hc'
      rename ¬ sg = #[45] => hc
      have hi : i ≤ rows.length := by simp at hi'; omega
      have hln := j1.len (by omega)
      refine r_addL I (I.atP (.head _)) (I.atP (.tail _ (.head _))) (by omega) fun x1 s₆ I => ?_
      repeat' (first | walk_at "st" | walk_at "ga")
      rename St _ _ _ _ _ _ _ => I
      refine r_addL I (I.atP (.head _)) (I.atP (.tail _ (.tail _ (.tail _ (.head _))))) (by simp; omega) fun x2 s₇ I => ?_
      refine e_ifexp ?_
      refine wpAny_isTrue_Compare1 ?_
      walk_at "st"
      walk_at "st"
      refine isNot_none ?_
      rcases hcase with ⟨r2, u, hi2, rfl, hri⟩ | ⟨hin, hsg, rfl⟩
      · rw [show (Value.bytes r2 u == Value.none) = false from rfl]
        refine tr_bool (lit_true ?_)
        repeat' (first | walk_at "st" | walk_at "ga")
        rename St _ _ _ _ _ _ _ => I
        refine r_newTuple I (by simp) fun t B₆ s₇ l6 ht I => ?_
        repeat' (first | walk_at "st" | walk_at "ga")
        rename St _ _ _ _ _ _ _ => I
        refine r_newList I (by simp) fun x3 s₈ I => ?_
        refine r_addL I (I.atP (.tail _ (.head _))) (I.atP (.head _)) (by simp; omega) fun x4 s₉ I => ?_
        walk_at "st"
        rename St _ _ _ _ _ _ _ => I
        refine e_list_nil I fun ga' s₃ I => ?_
        walk_at "st"
        rename St _ _ _ _ _ _ _ => I
        refine e_list_nil I fun ca' s₄ I => ?_
        walk_at "st"
        rename St _ _ _ _ _ _ _ => I
        refine r_newTuple I (by simp) fun tt B₇ s₅ l7 htt I => ?_
        refine HkT.go (by assumption) hA' htt I fun s₆ I => ?_
        repeat' walk_at "st"
        rename St _ _ _ _ _ _ _ => I
        have I := (I.perm (List.reverse_perm _).symm).drop.drop.drop.drop.drop.drop
        refine hNx _ B₇ _ _ (l6.trans l7) ⟨x4, ga', ca', _, _, _, rfl, ⟨fun h => ?_, fun h => absurd h (by omega)⟩, by walk_at "lk", by walk_at "lk", by walk_at "lk"⟩ I
        obtain ⟨a1, a2, a3⟩ := (j1.mono (l6.trans l7)).1 hi
        rw [take_snoc hri, tfold_snoc]
        unfold tstep
        rw [if_neg hc, if_neg hc']
        exact ⟨((a1.app a2).app a3).app (.cons ⟨t, _, _, rfl, ht.mono l7⟩ .nil), .nil, .nil⟩
      · rw [show (Value.none == Value.none) = true from rfl]
        refine tr_bool (lit_false ?_)
        repeat' (first | walk_at "st" | walk_at "ga")
        rename St _ _ _ _ _ _ _ => I
        refine r_addL I (I.atP (.tail _ (.head _))) (I.atP (.head _)) (by simp; omega) fun x4 s₉ I => ?_
        walk_at "st"
        rename St _ _ _ _ _ _ _ => I
        refine e_list_nil I fun ga' s₃ I => ?_
        walk_at "st"
        rename St _ _ _ _ _ _ _ => I
        refine e_list_nil I fun ca' s₄ I => ?_
        walk_at "st"
        rename St _ _ _ _ _ _ _ => I
        refine r_newTuple I (by simp) fun tt B₇ s₅ l7 htt I => ?_
        refine HkT.go (by assumption) hA' htt I fun s₆ I => ?_
        repeat' walk_at "st"
        rename St _ _ _ _ _ _ _ => I
        have I := (I.perm (List.reverse_perm _).symm).drop.drop.drop.drop.drop.drop
        refine hNx _ B₇ _ _ l7 ⟨x4, ga', ca', _, _, _, rfl, ⟨fun h => absurd h (by omega), fun h => ?_⟩, by walk_at "lk", by walk_at "lk", by walk_at "lk"⟩ I
        obtain ⟨a1, a2, a3⟩ := (j1.mono l7).1 hi
        rw [hin, List.take_length] at a1 a2 a3
        rw [List.append_nil]
        exact (a1.app a2).app a3
  · rintro B₅ m' led' s₅ l5 ⟨ra, ga, ca, R, Gn, C, rfl, j1, m1, m2, m3⟩ I
    have hB₅ := hB₄.mono l5
    have hR := j1.2 (by simp; omega)
    repeat' (first | walk_at "st" | walk_at "ga")
    rename St _ _ _ _ _ _ _ => I
    obtain ⟨B₆, l6, hcl, I⟩ := I.freezeL
    have le := (le₄.trans l5).trans l6
    exact hP _ _ B₆ _ _ le (I.drop.drop (led := [])) fun J => k ra R B₆ _ le hcl (hR.imp fun _ _ q => q.mono l6) J
end

section
theorem All2.cut {α β : Type} {R : α → β → Prop} {l : List α} {r : List β} (h : All2 R l r) (lo hi : Option Int) : All2 R (cutL l lo hi) (cutL r lo hi) := by
  unfold cutL
  rw [h.length]
  exact (h.drop _).take _
def lastD (l : List Bt) : Bt := l.getLast?.getD #[]
def fitsP (txt old new : List Bt) (done at_ : Int) : Bool :=
  if at_ < done ∨ (txt.length : Int) < at_ + old.length ∨ cutL txt (some at_) (some (at_ + old.length)) ≠ old then false
  else if new ≠ [] ∧ lastB (lastD new) ≠ #[10] ∧ at_ + old.length < txt.length then false
  else decide (new = [] ∨ at_ = 0 ∨ lastB (txt.getD (at_ - 1).toNat #[]) = #[10])
structure ImageAt (B : Kn) (y ol nl : Addr) : Prop where
  at_ : ∃ es, IsO B 94 y es ∧ getL "old" es = some (some (.ref ol)) ∧ getL "new" es = some (some (.ref nl)) ∧ getL "fits" es = some none ∧ getL "place" es = some none
theorem ImageAt.mono {B B' : Kn} {y ol nl : Addr} (h : ImageAt B y ol nl) (l : Le B B') : ImageAt B' y ol nl := let ⟨es, a, r⟩ := h.at_; ⟨es, a.mono l, r⟩

structure TxtAt (B : Kn) (l : Addr) (vs : List Value) (txt : List Bt) : Prop where
  l : IsL B l vs
  r : All2 RB vs txt
  z : txt.length ≤ 100
  s : ∀ b ∈ txt, b.size ≤ 2
theorem TxtAt.mono {B B' : Kn} {l : Addr} {vs : List Value} {txt : List Bt} (h : TxtAt B l vs txt) (q : Le B B') : TxtAt B' l vs txt := ⟨h.l.mono q, h.r, h.z, h.s⟩
theorem TxtAt.vz {B : Kn} {l : Addr} {vs : List Value} {txt : List Bt} (h : TxtAt B l vs txt) : vs.length ≤ 100 := by rw [h.r.length]; exact h.z

theorem ifits_spec {n : Nat} {y ol nl ll : Addr} {vs ovs nvs : List Value} {txt old new : List Bt} {done at_ : Int} {td ta : Tok} {Q : Value → Shared → Prop} (hA : Ar (n + 1) A) (hB : Amb w B) (I : St Z G B L m led s) (hY : ImageAt B y ol nl)
    (hT : TxtAt B ll vs txt) (hO : TxtAt B ol ovs old) (hN : TxtAt B nl nvs new) (hd : 0 ≤ done)
    (k : ∀ s', St Z G B L m led s' → Q (.bool (fitsP txt old new done at_)) s') : wpAny (model prog w) A (call (.ref 84) [.ref y, .ref ll, .int done td, .int at_ ta]) Q E s := by
  refine call_fn (lp := []) (lk := led) (args := ⟨[.ref y, .ref ll, .int done td, .int at_ ta], []⟩) (binds := [("self", .ref y), ("lines", .ref ll), ("done", .int done td), ("at", .int at_ ta)]) hA I hB (by rfl) (by rfl) (BindsTo.of_eq rfl) rfl (fun G' L' m₁ s₁ A' P hP hA' hm I => ?_)
  obtain ⟨es, hx, g1, g2, g3, g4⟩ := hY
  have hl := hT.l
  have hol := hO.l
  have hnl := hN.l
  have z1 := hT.vz
  have z2 := hO.vz
  have z3 := hN.vz
  have e1 := hT.r.length
  have e2 := hO.r.length
  have e3 := hN.r.length
  have fin : ∀ (led' : Led) m' s' b, St Z G' B L' m' led' s' → fitsP txt old new done at_ = b → P (.ret (.bool b)) s' := by
    rintro led' m' s' b I rfl
    exact hP _ _ B m' ([]) Le.rfl I.clear fun J => k _ J
  repeat' walk_at "sf"
  walk_at "st"
  repeat' walk_at "sf"
  · rename St _ _ _ _ _ _ _ => I
    rename at_ < done => hc
    exact fin _ _ _ _ I (by unfold fitsP; rw [if_pos (.inl hc)])
  · rename St _ _ _ _ _ _ _ => I
    rename (_ : Int) < at_ + _ => hc
    exact fin _ _ _ _ I (by unfold fitsP; rw [if_pos (.inr (.inl (by first | lia | omega)))])
  · rename ¬ at_ < done => hc1
    rename ¬ (_ : Int) < at_ + _ => hc2
    refine e_slice fun K₁ h₁ => ?_
    repeat' walk_at "sf"
    rename St _ _ _ _ _ _ _ => I
    refine h₁ (hl.at I) (by first | lia | omega) (.int _ _) (.int _ _) I fun a s₂ I => ?_
    repeat' walk_at "sf"
    rename St _ _ _ _ _ _ _ => I
    refine r_ne_lists eqR_B (hA'.in1) I.headP (hol.at I) (hT.r.cut _ _) hO.r ?_
    rw [e2]
    repeat' walk_at "sf"
    · rename St _ _ _ _ _ _ _ => I
      rename ¬ cutL _ _ _ = _ => hc
      exact fin _ _ _ _ I (by unfold fitsP; rw [if_pos (.inr (.inr hc))])
    · rename St _ _ _ _ _ _ _ => I
      rename cutL _ _ _ = _ => hc3
      have hno : ¬ (at_ < done ∨ (txt.length : Int) < at_ + old.length ∨ cutL txt (some at_) (some (at_ + old.length)) ≠ old) := by
        rintro (h | h | h)
        · exact hc1 h
        · exact hc2 (by first | lia | omega)
        · exact h hc3
      refine x_ifr (fun s' => (∃ led' m', St Z G' B L' m' led' s' ∧ m' (Str.ofString "at") = some (.int at_ ta) ∧ m' (Str.ofString "lines") = some (.ref ll) ∧ m' (Str.ofString "self") = some (.ref y)) ∧ ¬ (new ≠ [] ∧ lastB (lastD new) ≠ #[10] ∧ at_ + old.length < txt.length)) (fun K₀ hK => ?_) ?_
      · repeat' (first | walk_at "st" | walk_at "ga")
        rename St _ _ _ _ _ _ _ => I
        refine r_ne_lists eqR_B (hA'.in1) (hnl.at I) I.headP hN.r .nil ?_
        repeat' (first | walk_at "st" | walk_at "ga")
        · rename ¬ new = [] => hne
          rename St _ _ _ _ _ _ _ => I
          obtain ⟨nvs', new', vb, b, q1, q2, hn', ⟨tb, q3⟩⟩ := hN.r.last hne
          have hb : b.size ≤ 2 := hN.s b (by rw [q2]; simp)
          have hlD : lastD new = b := by rw [q2]; simp [lastD]
          refine e_bslice fun K₁ h₁ => ?_
          repeat' (first | walk_at "st" | walk_at "ga")
          rename St _ _ _ _ _ _ _ => I
          have hh := hnl.at I
          rw [q1] at hh
          refine t_llast (its := nvs') (x := vb) rfl hh (by have := congrArg List.length q1; simp at this; first | lia | omega) ?_
          rw [q3]
          repeat' (first | walk_at "st" | walk_at "ga")
          rename St _ _ _ _ _ _ _ => I
          refine h₁ (by first | lia | omega) (.int _ _) .none I fun t₃ s₇ I => ?_
          repeat' (first | walk_at "st" | walk_at "ga")
          · rename St _ _ _ _ _ _ _ => I
            rename ¬ KBy.picked _ _ _ = _ => hf
            rename _ < (vs.length : Int) => hlt
            exact fin _ _ _ _ I (by unfold fitsP; rw [if_neg hno, if_pos ⟨hne, by rw [hlD]; exact hf, by first | lia | omega⟩])
          · rename St _ _ _ _ _ _ _ => I
            rename ¬ _ < (vs.length : Int) => hlt
            exact ⟨⟨_, _, I, by walk_at "lk", by walk_at "lk", by walk_at "lk"⟩, fun h => hlt (by first | lia | omega)⟩
          · rename St _ _ _ _ _ _ _ => I
            rename KBy.picked _ _ _ = _ => hf
            exact ⟨⟨_, _, I, by walk_at "lk", by walk_at "lk", by walk_at "lk"⟩, fun h => h.2.1 (by rw [hlD]; exact hf)⟩
        · rename new = [] => hne
          rename St _ _ _ _ _ _ _ => I
          exact ⟨⟨_, _, I, by walk_at "lk", by walk_at "lk", by walk_at "lk"⟩, fun h => h.1 hne⟩
      · rintro s₃ ⟨⟨led', m', I, m1, m2, m3⟩, hno2⟩
        repeat' (first | walk_at "st" | walk_at "ga")
        rename St _ _ _ _ _ _ _ => I
        have ef : fitsP txt old new done at_ = decide (new = [] ∨ at_ = 0 ∨ lastB (txt.getD (at_ - 1).toNat #[]) = #[10]) := by unfold fitsP; rw [if_neg hno, if_neg hno2]
        refine r_eq_lists eqR_B (hA'.in1) (hnl.at I) I.headP hN.r .nil ?_
        repeat' (first | walk_at "st" | walk_at "ga")
        · rename St _ _ _ _ _ _ _ => I
          rename new = [] => hc
          exact fin _ _ _ _ I (by rw [ef]; simp [hc])
        · rename St _ _ _ _ _ _ _ => I
          rename at_ = 0 => hc
          exact fin _ _ _ _ I (by rw [ef]; simp [hc])
        · rename ¬ new = [] => hc
          rename ¬ at_ = 0 => hc0
          refine e_bslice fun K₁ h₁ => ?_
          repeat' (first | walk_at "st" | walk_at "ga")
          rename St _ _ _ _ _ _ _ => I
          refine t_lget (hl.at I) (by first | lia | omega) (by first | lia | omega) (by first | lia | omega) fun v hv => ?_
          obtain ⟨b, hb, ⟨tb, rfl⟩⟩ := hT.r.get?L hv
          have hbs : b.size ≤ 2 := hT.s b (List.mem_of_getElem? hb)
          repeat' (first | walk_at "st" | walk_at "ga")
          rename St _ _ _ _ _ _ _ => I
          refine h₁ (by first | lia | omega) (.int _ _) .none I fun t₃ s₇ I => ?_
          repeat' (first | walk_at "st" | walk_at "ga")
          rename St _ _ _ _ _ _ _ => I
          have hg : txt.getD (at_ - 1).toNat #[] = b := by rw [List.getD_eq_getElem?_getD, hb]; rfl
          exact fin _ _ _ _ I (by rw [ef, hg]; simp [hc, hc0, lastB])
end

section
theorem lfits_spec {n : Nat} {ol nl ll : Addr} {vs ovs nvs : List Value} {txt old new : List Bt} {done at_ : Int} {td ta : Tok} {Q : Value → Shared → Prop} (hA : Ar (n + 1) A) (hB : Amb w B) (I : St Z G B L m led s) 
    (hT : TxtAt B ll vs txt) (hO : TxtAt B ol ovs old) (hN : TxtAt B nl nvs new) (hd : 0 ≤ done)
    (k : ∀ s', St Z G B L m led s' → Q (.bool (fitsP txt old new done at_)) s') : wpAny (model prog w) A (call (.ref 153) [.ref ll, .ref ol, .ref nl, .int done td, .int at_ ta]) Q E s := by
  refine call_fn (lp := []) (lk := led) (args := ⟨[.ref ll, .ref ol, .ref nl, .int done td, .int at_ ta], []⟩) (binds := [("lines", .ref ll), ("old", .ref ol), ("new", .ref nl), ("done", .int done td), ("at", .int at_ ta)]) hA I hB (by rfl) (by rfl) (BindsTo.of_eq rfl) rfl (fun G' L' m₁ s₁ A' P hP hA' hm I => ?_)
  have hl := hT.l
  have hol := hO.l
  have hnl := hN.l
  have z1 := hT.vz
  have z2 := hO.vz
  have z3 := hN.vz
  have e1 := hT.r.length
  have e2 := hO.r.length
  have e3 := hN.r.length
  have fin : ∀ (led' : Led) m' s' b, St Z G' B L' m' led' s' → fitsP txt old new done at_ = b → P (.ret (.bool b)) s' := by
    rintro led' m' s' b I rfl
    exact hP _ _ B m' ([]) Le.rfl I.clear fun J => k _ J
  repeat' walk_at "sf"
  walk_at "st"
  repeat' walk_at "sf"
  · rename St _ _ _ _ _ _ _ => I
    rename at_ < done => hc
    exact fin _ _ _ _ I (by unfold fitsP; rw [if_pos (.inl hc)])
  · rename St _ _ _ _ _ _ _ => I
    rename (_ : Int) < at_ + _ => hc
    exact fin _ _ _ _ I (by unfold fitsP; rw [if_pos (.inr (.inl (by first | lia | omega)))])
  · rename ¬ at_ < done => hc1
    rename ¬ (_ : Int) < at_ + _ => hc2
    refine e_slice fun K₁ h₁ => ?_
    repeat' walk_at "sf"
    rename St _ _ _ _ _ _ _ => I
    refine h₁ (hl.at I) (by first | lia | omega) (.int _ _) (.int _ _) I fun a s₂ I => ?_
    repeat' walk_at "sf"
    rename St _ _ _ _ _ _ _ => I
    refine r_ne_lists eqR_B (hA'.in1) I.headP (hol.at I) (hT.r.cut _ _) hO.r ?_
    rw [e2]
    repeat' walk_at "sf"
    · rename St _ _ _ _ _ _ _ => I
      rename ¬ cutL _ _ _ = _ => hc
      exact fin _ _ _ _ I (by unfold fitsP; rw [if_pos (.inr (.inr hc))])
    · rename St _ _ _ _ _ _ _ => I
      rename cutL _ _ _ = _ => hc3
      have hno : ¬ (at_ < done ∨ (txt.length : Int) < at_ + old.length ∨ cutL txt (some at_) (some (at_ + old.length)) ≠ old) := by
        rintro (h | h | h)
        · exact hc1 h
        · exact hc2 (by first | lia | omega)
        · exact h hc3
      refine x_ifr (fun s' => (∃ led' m', St Z G' B L' m' led' s' ∧ m' (Str.ofString "at") = some (.int at_ ta) ∧ m' (Str.ofString "lines") = some (.ref ll) ∧ m' (Str.ofString "new") = some (.ref nl)) ∧ ¬ (new ≠ [] ∧ lastB (lastD new) ≠ #[10] ∧ at_ + old.length < txt.length)) (fun K₀ hK => ?_) ?_
      · repeat' (first | walk_at "st" | walk_at "ga")
        rename St _ _ _ _ _ _ _ => I
        refine r_ne_lists eqR_B (hA'.in1) (hnl.at I) I.headP hN.r .nil ?_
        repeat' (first | walk_at "st" | walk_at "ga")
        · rename ¬ new = [] => hne
          rename St _ _ _ _ _ _ _ => I
          obtain ⟨nvs', new', vb, b, q1, q2, hn', ⟨tb, q3⟩⟩ := hN.r.last hne
          have hb : b.size ≤ 2 := hN.s b (by rw [q2]; simp)
          have hlD : lastD new = b := by rw [q2]; simp [lastD]
          refine e_bslice fun K₁ h₁ => ?_
          repeat' (first | walk_at "st" | walk_at "ga")
          rename St _ _ _ _ _ _ _ => I
          have hh := hnl.at I
          rw [q1] at hh
          refine t_llast (its := nvs') (x := vb) rfl hh (by have := congrArg List.length q1; simp at this; first | lia | omega) ?_
          rw [q3]
          repeat' (first | walk_at "st" | walk_at "ga")
          rename St _ _ _ _ _ _ _ => I
          refine h₁ (by first | lia | omega) (.int _ _) .none I fun t₃ s₇ I => ?_
          repeat' (first | walk_at "st" | walk_at "ga")
          · rename St _ _ _ _ _ _ _ => I
            rename ¬ KBy.picked _ _ _ = _ => hf
            rename ¬ at_ + _ = (vs.length : Int) => hlt
            exact fin _ _ _ _ I (by unfold fitsP; rw [if_neg hno, if_pos ⟨hne, by rw [hlD]; exact hf, by first | lia | omega⟩])
          · rename St _ _ _ _ _ _ _ => I
            rename at_ + _ = (vs.length : Int) => hlt
            exact ⟨⟨_, _, I, by walk_at "lk", by walk_at "lk", by walk_at "lk"⟩, fun h => by first | lia | omega⟩
          · rename St _ _ _ _ _ _ _ => I
            rename KBy.picked _ _ _ = _ => hf
            exact ⟨⟨_, _, I, by walk_at "lk", by walk_at "lk", by walk_at "lk"⟩, fun h => h.2.1 (by rw [hlD]; exact hf)⟩
        · rename new = [] => hne
          rename St _ _ _ _ _ _ _ => I
          exact ⟨⟨_, _, I, by walk_at "lk", by walk_at "lk", by walk_at "lk"⟩, fun h => h.1 hne⟩
      · rintro s₃ ⟨⟨led', m', I, m1, m2, m3⟩, hno2⟩
        repeat' (first | walk_at "st" | walk_at "ga")
        rename St _ _ _ _ _ _ _ => I
        have ef : fitsP txt old new done at_ = decide (new = [] ∨ at_ = 0 ∨ lastB (txt.getD (at_ - 1).toNat #[]) = #[10]) := by unfold fitsP; rw [if_neg hno, if_neg hno2]
        refine r_eq_lists eqR_B (hA'.in1) (hnl.at I) I.headP hN.r .nil ?_
        repeat' (first | walk_at "st" | walk_at "ga")
        · rename St _ _ _ _ _ _ _ => I
          rename new = [] => hc
          exact fin _ _ _ _ I (by rw [ef]; simp [hc])
        · rename St _ _ _ _ _ _ _ => I
          rename at_ = 0 => hc
          exact fin _ _ _ _ I (by rw [ef]; simp [hc])
        · rename ¬ new = [] => hc
          rename ¬ at_ = 0 => hc0
          refine e_bslice fun K₁ h₁ => ?_
          repeat' (first | walk_at "st" | walk_at "ga")
          rename St _ _ _ _ _ _ _ => I
          refine t_lget (hl.at I) (by first | lia | omega) (by first | lia | omega) (by first | lia | omega) fun v hv => ?_
          obtain ⟨b, hb, ⟨tb, rfl⟩⟩ := hT.r.get?L hv
          have hbs : b.size ≤ 2 := hT.s b (List.mem_of_getElem? hb)
          repeat' (first | walk_at "st" | walk_at "ga")
          rename St _ _ _ _ _ _ _ => I
          refine h₁ (by first | lia | omega) (.int _ _) .none I fun t₃ s₇ I => ?_
          repeat' (first | walk_at "st" | walk_at "ga")
          rename St _ _ _ _ _ _ _ => I
          have hg : txt.getD (at_ - 1).toNat #[] = b := by rw [List.getD_eq_getElem?_getD, hb]; rfl
          exact fin _ _ _ _ I (by rw [ef, hg]; simp [hc, hc0, lastB])
end

section
local macro_rules | `(tactic| walk_at "sa") => `(tactic| ((with_reducible show wpAny _ _ (setAttr (Value.ref _) _ _) _ _ _); (rename St _ _ _ _ _ _ _ => I); refine r_setattr I (by assumption) (by rfl) (by repeat' (first | exact Nat.zero_le _ | refine putL_le ?_)) ?_ (by rfl) (by rfl) (by rfl) (by rfl); clear I; intro _ _ _))
theorem image_es {w : World} {a b : Value} {t1 t2 : Tok} :
    let es := putL "new" (PyData.keyHash w.params "new") (.str "new" t2) b (putL "old" (PyData.keyHash w.params "old") (.str "old" t1) a [])
    getL "old" es = some (some a) ∧ getL "new" es = some (some b) ∧ getL "fits" es = some none ∧ getL "place" es = some none := by
  intro es
  refine ⟨?_, ?_, ?_, ?_⟩ <;> rfl

theorem mkimage {n : Nat} {x : Addr} {a b e f p q : Int} {tp tq : Tok} {rl : Addr} {hd : Bt} {rs : List Value} {rows : List Rw} {Q : Value → Shared → Prop} (hA : Ar (n + 8) A) (hB : Amb w B) (I : St Z G B L m led s) (hH : HunkAt B x a b e f rl hd)
    (hl : IsL B rl rs) (hr : All2 (RR B) rs rows) (hz : rs.length ≤ 100)
    (k : ∀ y ol nl ovs nvs B' s', Le B B' → ImageAt B' y ol nl → IsL B' ol ovs → All2 RB ovs (sideP #[45] (cutL rows (some p) (some (rows.length - q)))) → IsL B' nl nvs → All2 RB nvs (sideP #[43] (cutL rows (some p) (some (rows.length - q)))) →
      St Z G B' L m led s' → Q (.ref y) s') :
    wpAny (model prog w) A (call (.ref 94) [.ref x, .int p tp, .int q tq] []) Q E s := by
  refine make_obj (lp := []) (lk := led) (f := 77) (binds := fun y => [("self", y), ("hunk", .ref x), ("ahead", .int p tp), ("behind", .int q tq)]) hA I hB (by rfl) (by rfl) (by rfl) (by rfl) (by rfl)
    (fun x s' X => BindsTo.of_defaults (T := 70) rfl (X _ _ (by rfl)) rfl rfl rfl) (fun x => rfl) (fun y dx G' L' m₁ s₁ A' P hPo hA' hm I => ?_)
  obtain ⟨es, hx, ⟨t1, g1⟩, ⟨t2, g2⟩, ⟨t3, g3⟩, ⟨t4, g4⟩, g5, ⟨t6, g6⟩, g7, g8, g9, g10⟩ := hH
  have hlen := hr.length
  walk_at "st"
  refine e_slice fun K₁ h₁ => ?_
  repeat' (first | walk_at "st" | walk_at "ga" | walk_at "sa")
  rename St _ _ _ _ _ _ _ => I
  refine h₁ (hl.at I) (by first | lia | omega) (.int _ _) (.int _ _) I fun kl s₂ I => ?_
  rw [hlen] at I
  obtain ⟨B₁, l1, hkl, I⟩ := I.freezeL
  have hB₁ := hB.mono l1
  have hx₁ := hx.mono l1
  have hkr := (hr.imp fun _ _ q => q.mono l1).cut (some p) (some ((rows.length : Int) - q))
  have hkz : (cutL rs (some p) (some ((rows.length : Int) - q))).length ≤ 100 := by
    unfold cutL; rw [List.length_take, List.length_drop]; first | lia | omega
  repeat' (first | walk_at "st" | walk_at "ga" | walk_at "sa")
  rename St _ _ _ _ _ _ _ => I
  refine mkhunk5 (n := n) hA'.dn hB₁ I fun hp B₂ s₃ l2 hP I => ?_
  have hB₂ := hB₁.mono l2
  obtain ⟨es₂, hx₂, _, _, _, _, p5, _, p7, p8, p9, p10⟩ := hP.at_
  repeat' (first | walk_at "st" | walk_at "ga" | walk_at "sa")
  rename St _ _ _ _ _ _ _ => I
  refine side_spec (n := n) hA'.dn hB₂ I hP (hkl.mono l2) (hkr.imp fun _ _ q => q.mono l2) (by first | lia | omega) fun ol B₃ ovs s₄ l3 hol hor I => ?_
  have hB₃ := hB₂.mono l3
  have hx₃ := hx₂.mono l3
  repeat' (first | walk_at "st" | walk_at "ga" | walk_at "sa")
  rename St _ _ _ _ _ _ _ => I
  refine side_spec (n := n) hA'.dn hB₃ I (hP.mono l3) ((hkl.mono l2).mono l3) (hkr.imp fun _ _ q => (q.mono l2).mono l3) (by first | lia | omega) fun nl B₄ nvs s₅ l4 hnl hnr I => ?_
  have hB₄ := hB₃.mono l4
  repeat' (first | walk_at "st" | walk_at "ga" | walk_at "sa")
  rename St _ _ _ _ _ _ _ => I
  obtain ⟨B₅, o₁, l5, h1, ⟨nn, rfl⟩, I⟩ := I.freeze
  obtain ⟨B₆, o₂, l6, h2, rfl, I⟩ := I.freeze
  obtain ⟨i1, i2, i3, i4⟩ := image_es (w := w) (a := .ref ol) (b := .ref nl)
  have le := ((((l1.trans l2).trans l3).trans l4).trans l5).trans l6
  refine hPo _ B₆ _ ([]) le I fun J => k y ol nl ovs nvs B₆ _ le ⟨_, ⟨dx, nn, h2, l6 _ _ h1⟩, i1, i2, i3, i4⟩ (hol.mono ((l4.trans l5).trans l6)) hor (hnl.mono (l5.trans l6)) hnr J
end

section
def Good (txt old new : List Bt) (done near : Int) (most : Option Int) (a : Int) : Prop :=
  0 ≤ a ∧ a ≤ txt.length ∧ (∀ m, most = some m → ((a - near).natAbs : Int) ≤ m) ∧ (old ≠ [] ∨ a = near) ∧ fitsP txt old new done a = true
def ab (near a : Int) : Int := ((a - near).natAbs : Int)
def sg (near a : Int) : Int := if a < near then 1 else 0
def rk (near a : Int) : Int := 2 * ab near a + sg near a
def kless (near a b : Int) : Prop := rk near a < rk near b
theorem sg01 {near a : Int} : 0 ≤ sg near a ∧ sg near a ≤ 1 := by unfold sg; split <;> decide
theorem sg_lt {near a : Int} (h : a < near) : sg near a = 1 := if_pos h
theorem sg_ge {near a : Int} (h : near ≤ a) : sg near a = 0 := if_neg (Int.not_lt.mpr h)
theorem two_inj {x y p q : Int} (hp : 0 ≤ p ∧ p ≤ 1) (hq : 0 ≤ q ∧ q ≤ 1) (h : 2 * x + p = 2 * y + q) : x = y ∧ p = q := by first | lia | omega
theorem two_lt {x y p q : Int} (hp : 0 ≤ p ∧ p ≤ 1) (hq : 0 ≤ q ∧ q ≤ 1) (h : x < y) : 2 * x + p < 2 * y + q := by first | lia | omega
theorem two_lt' {x y p q : Int} (hp : 0 ≤ p ∧ p ≤ 1) (hq : 0 ≤ q ∧ q ≤ 1) (h : x ≠ y) : x < y ↔ 2 * x + p < 2 * y + q := by first | lia | omega
theorem two_eq {x y p q : Int} (h : x = y) : p < q ↔ 2 * x + p < 2 * y + q := by first | lia | omega
theorem lt_le_ne {x y : Int} (h : x ≤ y) (n : x ≠ y) : x < y := by first | lia | omega
theorem rk_inj {near a b : Int} (h : rk near a = rk near b) : a = b := by
  obtain ⟨h1, h2⟩ := two_inj sg01 sg01 h
  rcases Int.natAbs_eq_natAbs_iff.mp (Int.ofNat.inj h1) with h | h
  · exact Int.sub_left_inj near |>.mp h
  · rcases Int.lt_or_le a near with q | q
    · rcases Int.lt_or_le b near with r | r
      · omega
      · rw [sg_lt q, sg_ge r] at h2; cases h2
    · rcases Int.lt_or_le b near with r | r
      · rw [sg_ge q, sg_lt r] at h2; cases h2
      · omega
def IsPlace (txt old new : List Bt) (done near : Int) (most : Option Int) (r : Option Int) : Prop := match r with
  | none => ∀ a, ¬ Good txt old new done near most a
  | some a => Good txt old new done near most a ∧ ∀ b, Good txt old new done near most b → b ≠ a → kless near a b
theorem IsPlace.uniq {txt old new : List Bt} {done near : Int} {most r r' : Option Int} (h : IsPlace txt old new done near most r) (h' : IsPlace txt old new done near most r') : r = r' := by
  cases r with
  | none =>
    cases r' with
    | none => rfl
    | some a => exact absurd h'.1 (h a)
  | some a =>
    cases r' with
    | none => exact absurd h.1 (h' a)
    | some b =>
      by_cases e : a = b
      · rw [e]
      · have k1 := h.2 b h'.1 (Ne.symm e)
        have k2 := h'.2 a h.1 e
        exact absurd k2 (Int.lt_asymm k1)
theorem fits_bounds {txt old new : List Bt} {done a : Int} (h : fitsP txt old new done a = true) : done ≤ a ∧ a + old.length ≤ txt.length := by
  unfold fitsP at h
  split at h
  · cases h
  · rename_i hc
    constructor
    · exact Int.not_lt.mp fun z => hc (.inl z)
    · exact Int.not_lt.mp fun z => hc (.inr (.inl z))
def OV (r : Option Int) (v : Value) : Prop := match r with | none => v = .none | some a => ∃ t, v = .int a t
def MV (most : Option Int) (v : Value) : Prop := match most with | none => v = .none | some i => 0 ≤ i ∧ i ≤ 1000 ∧ ∃ t, v = .int i t

def least (txt old : List Bt) (done near : Int) : Int := max 0 (max (near - (txt.length - old.length)) (done - near))
def most1 (txt old : List Bt) (done near : Int) (most : Option Int) : Int := match most with
  | none => max ((txt.length : Int) - old.length - near) (near - done)
  | some i => min (max ((txt.length : Int) - old.length - near) (near - done)) i
def most2 (txt old : List Bt) (done near : Int) (most : Option Int) : Int := if old = [] then 0 else most1 txt old done near most
def Miss (txt old new : List Bt) (done near off : Int) : Prop := fitsP txt old new done (near + off) = false ∧ (0 < off → fitsP txt old new done (near - off) = false)

theorem good_range {txt old new : List Bt} {done near a : Int} {most : Option Int} (hd : 0 ≤ done) (h : Good txt old new done near most a) : least txt old done near ≤ ((a - near).natAbs : Int) ∧ ((a - near).natAbs : Int) ≤ most2 txt old done near most := by
  obtain ⟨h1, h2, h3, h4, h5⟩ := h
  obtain ⟨b1, b2⟩ := fits_bounds h5
  constructor
  · unfold least; first | lia | omega
  · unfold most2
    split
    · rename_i e
      rcases h4 with h4 | h4
      · exact absurd e h4
      · omega
    · unfold most1
      cases most with
      | none => simp only; first | lia | omega
      | some i => have := h3 i rfl; simp only; first | lia | omega
theorem good_of {txt old new : List Bt} {done near a off : Int} {most : Option Int} (hd : 0 ≤ done) (hm : ∀ i, most = some i → 0 ≤ i) (h0 : 0 ≤ off) (h : off ≤ most2 txt old done near most) (ha : a = near + off ∨ a = near - off) (hf : fitsP txt old new done a = true) : Good txt old new done near most a := by
  obtain ⟨b1, b2⟩ := fits_bounds hf
  have hab : ((a - near).natAbs : Int) = off := by first | lia | omega
  unfold most2 at h
  refine ⟨by first | lia | omega, by first | lia | omega, fun m e => ?_, ?_, hf⟩
  · rw [hab]
    split at h
    · have := hm m e; first | lia | omega
    · subst e
      unfold most1 at h
      simp only at h
      first | lia | omega
  · by_cases e : old = []
    · right
      rw [if_pos e] at h
      first | lia | omega
    · exact .inl e
theorem place_none {txt old new : List Bt} {done near : Int} {most : Option Int} (hd : 0 ≤ done) (h : ∀ off, least txt old done near ≤ off → off ≤ most2 txt old done near most → Miss txt old new done near off) : IsPlace txt old new done near most none := by
  intro a g
  obtain ⟨r1, r2⟩ := good_range hd g
  obtain ⟨m1, m2⟩ := h _ r1 r2
  have hf := g.2.2.2.2
  by_cases e : near ≤ a
  · have : near + ((a - near).natAbs : Int) = a := by first | lia | omega
    rw [this, hf] at m1; cases m1
  · have e2 : near - ((a - near).natAbs : Int) = a := by first | lia | omega
    have := m2 (by first | lia | omega)
    rw [e2, hf] at this; cases this
theorem place_some {txt old new : List Bt} {done near a off : Int} {most : Option Int} (hd : 0 ≤ done) (hm : ∀ i, most = some i → 0 ≤ i) (h0 : 0 ≤ off) (h1 : off ≤ most2 txt old done near most)
    (h : ∀ o, least txt old done near ≤ o → o < off → Miss txt old new done near o) (ha : a = near + off ∨ (a = near - off ∧ 0 < off ∧ fitsP txt old new done (near + off) = false)) (hf : fitsP txt old new done a = true) : IsPlace txt old new done near most (some a) := by
  refine ⟨good_of hd hm h0 h1 (ha.imp id (·.1)) hf, fun b g hne => ?_⟩
  obtain ⟨r1, r2⟩ := good_range hd g
  have hfb := g.2.2.2.2
  have haa : ab near a = off := by unfold ab; rcases ha with ha | ⟨ha, _⟩ <;> first | lia | omega
  by_cases lt : ((b - near).natAbs : Int) < off
  · exfalso
    obtain ⟨m1, m2⟩ := h _ r1 lt
    by_cases e : near ≤ b
    · have : near + ((b - near).natAbs : Int) = b := by first | lia | omega
      rw [this, hfb] at m1; cases m1
    · have e2 : near - ((b - near).natAbs : Int) = b := by first | lia | omega
      have := m2 (by first | lia | omega)
      rw [e2, hfb] at this; cases this
  · by_cases eq : ((b - near).natAbs : Int) = off
    · rcases ha with ha | ⟨ha, hp, hno⟩
      · have hbn : b < near := by first | lia | omega
        show 2 * ab near a + sg near a < 2 * ab near b + sg near b
        rw [haa, sg_lt hbn, sg_ge (by first | lia | omega), show ab near b = off from eq]
        exact (two_eq rfl).mp (by decide)
      · exfalso
        have : b = near + off := by first | lia | omega
        rw [← this, hfb] at hno; cases hno
    · exact two_lt sg01 sg01 (by rw [haa]; exact lt_le_ne (Int.not_lt.mp lt) (Ne.symm eq))
end

section
inductive GJ (txt old new : List Bt) (done near : Int) (td tn : Tok) (y ll : Addr) (i : Nat) (B' : Kn) (m' : Str → Option Value) (led' : Led) : Prop
  | mk (j : ∀ o, least txt old done near ≤ o → o < least txt old done near + (i : Nat) → Miss txt old new done near o) (m1 : m' (Str.ofString "self") = some (.ref y)) (m2 : m' (Str.ofString "lines") = some (.ref ll)) (m3 : m' (Str.ofString "done") = some (.int done td)) (m4 : m' (Str.ofString "near") = some (.int near tn)) : GJ txt old new done near td tn y ll i B' m' led'
inductive GM (txt old : List Bt) (done near : Int) (td tn : Tok) (y ll : Addr) (mo : Int) (Z : Shared) (G B : Kn) (L : Addr) (s' : Shared) : Prop
  | mk (m' : Str → Option Value) (tl tm : Tok) (led' : Led) (m1 : m' (Str.ofString "self") = some (.ref y)) (m2 : m' (Str.ofString "lines") = some (.ref ll)) (m3 : m' (Str.ofString "done") = some (.int done td)) (m4 : m' (Str.ofString "near") = some (.int near tn))
    (m5 : m' (Str.ofString "least") = some (.int (least txt old done near) tl)) (m6 : m' (Str.ofString "most") = some (.int mo tm)) (I : St Z G B L m' led' s') : GM txt old done near td tn y ll mo Z G B L s'
theorem place_spec {n : Nat} {y ol nl ll : Addr} {vs ovs nvs : List Value} {txt old new : List Bt} {done near : Int} {most : Option Int} {mv : Value} {td tn : Tok} {Q : Value → Shared → Prop} (hA : Ar (n + 4) A) (hB : Amb w B) (I : St Z G B L m led s) (hY : ImageAt B y ol nl)
    (hT : TxtAt B ll vs txt) (hO : TxtAt B ol ovs old) (hN : TxtAt B nl nvs new) (hd : 0 ≤ done ∧ done ≤ 1000) (hn : -1000 ≤ near ∧ near ≤ 1000) (hmv : MV most mv)
    (k : ∀ v r B' s', Le B B' → IsPlace txt old new done near most r → OV r v → St Z G B' L m led s' → Q v s') : wpAny (model prog w) A (call (.ref 91) [.ref y, .ref ll, .int done td, .int near tn, mv]) Q E s := by
  refine call_fn (lp := []) (lk := led) (args := ⟨[.ref y, .ref ll, .int done td, .int near tn, mv], []⟩) (binds := [("self", .ref y), ("lines", .ref ll), ("done", .int done td), ("near", .int near tn), ("most_off", mv)]) hA I hB (by rfl) (by rfl) (BindsTo.of_eq rfl) rfl (fun G' L' m₁ s₁ A' P hP hA' hm I => ?_)
  obtain ⟨es, hx, g1, g2, g3, g4⟩ := hY.at_
  have hl := hT.l
  have hol := hO.l
  have hnl := hN.l
  have z1 := hT.vz
  have z2 := hO.vz
  have e1 := hT.r.length
  have e2 := hO.r.length
  repeat' walk_at "sf"
  rename St _ _ _ _ _ _ _ => I
  refine r_newTuple I (by simp) fun t B₁ s₂ l1 ht I => ?_
  have hB₁ := hB.mono l1
  have hx₁ := hx.mono l1
  have hY₁ := hY.mono l1
  have hT₁ := hT.mono l1
  have hO₁ := hO.mono l1
  have hN₁ := hN.mono l1
  have hol₁ := hol.mono l1
  refine HkT.go (by assumption) hA' ht I fun s₆ I => ?_
  repeat' walk_at "sf"
  rename St _ _ _ _ _ _ _ => I
  have eleast : max 0 (max (near - ((vs.length : Int) - ovs.length)) (done - near)) = least txt old done near := by unfold least; rw [e1, e2]
  refine x_ifm (GM txt old done near td tn y ll (most1 txt old done near most) Z G' B₁ L') (fun N₀ K₀ hM hK => ?_) ?_
  · refine wpAny_isTrue_Compare1 ?_
    walk_at "st"
    walk_at "st"
    refine isNot_none ?_
    cases most with
    | none =>
      have hmv : mv = .none := hmv
      subst hmv
      rw [show (Value.none == Value.none) = true from rfl]
      refine tr_bool (Hk.go (by assumption) (lit_false ?_))
      repeat' (first | walk_at "st" | walk_at "ga")
      rename St _ _ _ _ _ _ _ => I
      have em : max ((vs.length : Int) - ovs.length - near) (near - done) = most1 txt old done near none := by unfold most1; rw [e1, e2]
      exact hM _ ⟨_, _, _, _, by walk_at "lk", by walk_at "lk", by walk_at "lk", by walk_at "lk", by rw [← eleast]; walk_at "lk", by rw [← em]; walk_at "lk", I⟩
    | some i =>
      obtain ⟨i0, i1, ti, rfl⟩ := hmv
      rw [show (Value.int i ti == Value.none) = false from rfl]
      refine tr_bool (Hk.go (by assumption) (lit_true ?_))
      repeat' (first | walk_at "st" | walk_at "ga")
      rename St _ _ _ _ _ _ _ => I
      have em : min (max ((vs.length : Int) - ovs.length - near) (near - done)) i = most1 txt old done near (some i) := by unfold most1; rw [e1, e2]
      exact hM _ ⟨_, _, _, _, by walk_at "lk", by walk_at "lk", by walk_at "lk", by walk_at "lk", by rw [← eleast]; walk_at "lk", by rw [← em]; walk_at "lk", I⟩
  · rintro s₂ ⟨m', tl, tm, led', m1, m2, m3, m4, m5, m6, I⟩
    refine x_ifm (GM txt old done near td tn y ll (most2 txt old done near most) Z G' B₁ L') (fun N₀ K₀ hM hK => ?_) ?_
    · repeat' (first | walk_at "st" | walk_at "ga")
      rename St _ _ _ _ _ _ _ => I
      refine r_eq_lists eqR_B (hA'.in1) (hol₁.at I) I.headP hO.r .nil ?_
      repeat' (first | walk_at "st" | walk_at "ga")
      · rename St _ _ _ _ _ _ _ => I
        rename old = [] => hc
        have em : (0 : Int) = most2 txt old done near most := by unfold most2; rw [if_pos hc]
        exact hM _ ⟨_, _, _, _, by walk_at "lk", by walk_at "lk", by walk_at "lk", by walk_at "lk", by walk_at "lk", by rw [← em]; walk_at "lk", I⟩
      · rename St _ _ _ _ _ _ _ => I
        rename ¬ old = [] => hc
        have em : most1 txt old done near most = most2 txt old done near most := by unfold most2; rw [if_neg hc]
        exact hM _ ⟨_, _, _, _, by walk_at "lk", by walk_at "lk", by walk_at "lk", by walk_at "lk", by walk_at "lk", by rw [← em]; walk_at "lk", I⟩
    · rintro s₃ ⟨m', tl, tm, led', m1, m2, m3, m4, m5, m6, I⟩
      have I := I.clear
      have bl : -100000 ≤ least txt old done near ∧ least txt old done near ≤ 100000 := by unfold least; have := hT.z; have := hO.z; omega
      have l0 : 0 ≤ least txt old done near := by unfold least; omega
      have bm : -100000 ≤ most2 txt old done near most ∧ most2 txt old done near most ≤ 100000 := by
        have := hT.z
        have := hO.z
        unfold most2
        split
        · omega
        · unfold most1
          cases most with
          | none => simp only; omega
          | some i => obtain ⟨i0, i1, _⟩ := hmv; simp only; omega
      have hm0 : ∀ i, most = some i → 0 ≤ i := by
        intro i e
        subst e
        exact hmv.1
      refine x_for fun K₀ hF hR => ?_
      repeat' (first | walk_at "st" | walk_at "ga")
      rename St _ _ _ _ _ _ _ => I
      refine pi_range hA'.h I (by omega) (by omega) fun a s₄ W I hS => ?_
      refine loop_core W (GJ txt old new done near td tn y ll)
        I hS ⟨fun o h1 h2 => by omega, by walk_at "lk", by walk_at "lk", by walk_at "lk", by walk_at "lk"⟩ ?_ ?_
      · rintro i v B₂ m' led' G₂ s₅ E' P₂ hNx hR₂ hi' ⟨tv, rfl⟩ l2 ⟨j1, m1, m2, m3, m4⟩ I
        have hB₂ := hB₁.mono l2
        have hx₂ := hx₁.mono l2
        repeat' (first | walk_at "st" | walk_at "ga")
        rename St _ _ _ _ _ _ _ => I
        refine ifits_spec (n := n) hA'.dn hB₂ I (hY₁.mono l2) (hT₁.mono l2) (hO₁.mono l2) (hN₁.mono l2) hd.1 fun s₆ I => ?_
        have hoff : least txt old done near + (i : Int) ≤ most2 txt old done near most := by omega
        repeat' (first | walk_at "st" | walk_at "ga")
        · rename St _ _ _ _ _ _ _ => I
          rename fitsP _ _ _ _ _ = true => hf
          exact hR₂ _ _ B₂ _ _ Le.rfl I fun I => HkR.go (by assumption) (hP _ _ B₂ _ [] (l1.trans l2) I.clear fun J => k _ (some _) B₂ _ (l1.trans l2) (place_some hd.1 hm0 (by omega) hoff j1 (.inl rfl) hf) ⟨_, rfl⟩ J)
        · rename fitsP _ _ _ _ _ = false => hf1
          rename St _ _ _ _ _ _ _ => I
          refine ifits_spec (n := n) hA'.dn hB₂ I (hY₁.mono l2) (hT₁.mono l2) (hO₁.mono l2) (hN₁.mono l2) hd.1 fun s₆ I => ?_
          repeat' (first | walk_at "st" | walk_at "ga")
          · rename St _ _ _ _ _ _ _ => I
            rename fitsP _ _ _ _ _ = true => hf
            rename (0 : Int) < _ => hp
            exact hR₂ _ _ B₂ _ _ Le.rfl I fun I => HkR.go (by assumption) (hP _ _ B₂ _ [] (l1.trans l2) I.clear fun J => k _ (some _) B₂ _ (l1.trans l2) (place_some hd.1 hm0 (by omega) hoff j1 (.inr ⟨rfl, hp, hf1⟩) hf) ⟨_, rfl⟩ J)
          · rename St _ _ _ _ _ _ _ => I
            rename fitsP _ _ _ _ (_ - _) = false => hf
            refine hNx _ B₂ _ _ Le.rfl ⟨fun o h1 h2 => ?_, by walk_at "lk", by walk_at "lk", by walk_at "lk", by walk_at "lk"⟩ I
            by_cases e : o < least txt old done near + (i : Int)
            · exact j1 o h1 e
            · have : o = least txt old done near + (i : Int) := by omega
              subst this
              exact ⟨hf1, fun _ => hf⟩
        · rename fitsP _ _ _ _ _ = false => hf1
          rename St _ _ _ _ _ _ _ => I
          rename ¬ (0 : Int) < _ => hp
          refine hNx _ B₂ _ _ Le.rfl ⟨fun o h1 h2 => ?_, by walk_at "lk", by walk_at "lk", by walk_at "lk", by walk_at "lk"⟩ I
          by_cases e : o < least txt old done near + (i : Int)
          · exact j1 o h1 e
          · have : o = least txt old done near + (i : Int) := by omega
            subst this
            exact ⟨hf1, fun q => absurd q hp⟩
      · rintro B₂ m' led' s₅ l2 ⟨j1, m1, m2, m3, m4⟩ I
        repeat' (first | walk_at "st" | walk_at "ga")
        rename St _ _ _ _ _ _ _ => I
        exact hP _ _ B₂ _ ([]) (l1.trans l2) I.clear fun J => k _ none B₂ _ (l1.trans l2) (place_none hd.1 (fun o h1 h2 => j1 o h1 (by omega))) rfl J
end

section
def keyOf (near a : Int) : List Int := [ab near a, sg near a, a]
def RK (B : Kn) (near : Int) (v : Value) (a : Int) : Prop := ∃ p vs, v = .ref p ∧ IsT B p vs ∧ All2 RI vs (keyOf near a)
theorem RK.mono {B B' : Kn} {near a : Int} {v : Value} (h : RK B near v a) (l : Le B B') : RK B' near v a := let ⟨p, vs, e, q, r⟩ := h; ⟨p, vs, e, q.mono l, r⟩
theorem key_lt {near a b : Int} : lexlt (keyOf near a) (keyOf near b) = true ↔ kless near a b := by
  unfold keyOf
  simp only [lexlt]
  show _ ↔ 2 * ab near a + sg near a < 2 * ab near b + sg near b
  by_cases h1 : ab near a = ab near b
  · rw [if_pos h1]
    by_cases h2 : sg near a = sg near b
    · rw [if_pos h2]
      have e : a = b := rk_inj (by unfold rk; rw [h1, h2])
      subst e
      simp
    · rw [if_neg h2, decide_eq_true_eq]
      exact two_eq h1
  · rw [if_neg h1, decide_eq_true_eq]
    exact two_lt' sg01 sg01 h1
def kltB (near a b : Int) : Bool := lexlt (keyOf near a) (keyOf near b)
theorem best_min {near : Int} : ∀ (ds : List Int) (d : Int), bestOf (kltB near) d ds ∈ d :: ds ∧ ∀ b ∈ d :: ds, b ≠ bestOf (kltB near) d ds → kless near (bestOf (kltB near) d ds) b := by
  intro ds
  induction ds with
  | nil => intro d; refine ⟨.head _, fun b hb hne => ?_⟩; simp at hb; exact absurd hb hne
  | cons x r ih =>
    intro d
    rw [bestOf]
    by_cases q : kltB near x d = true
    · rw [if_pos q]
      obtain ⟨i1, i2⟩ := ih x
      refine ⟨List.mem_cons_of_mem _ i1, fun b hb hne => ?_⟩
      rcases List.mem_cons.mp hb with rfl | hb
      · have k1 := key_lt.mp q
        by_cases e : x = bestOf (kltB near) x r
        · rw [← e]; exact k1
        · have k2 := i2 x (.head _) e
          exact Int.lt_trans k2 k1
      · exact i2 b hb hne
    · rw [if_neg q]
      obtain ⟨i1, i2⟩ := ih d
      refine ⟨?_, fun b hb hne => ?_⟩
      · rcases List.mem_cons.mp i1 with h | h
        · rw [h]; exact .head _
        · exact .tail _ (.tail _ h)
      · rcases List.mem_cons.mp hb with rfl | hb
        · exact i2 _ (.head _) hne
        · rcases List.mem_cons.mp hb with rfl | hb
          · have nk : ¬ kless near b d := fun z => q (key_lt.mpr z)
            by_cases e : d = bestOf (kltB near) d r
            · rw [← e] at hne ⊢
              exact lt_le_ne (Int.not_lt.mp nk) fun z => hne (rk_inj z).symm
            · exact Int.lt_of_lt_of_le (i2 d (.head _) e) (Int.not_lt.mp nk)
          · exact i2 b (.tail _ hb) hne
theorem cmps_RK {B : Kn} {near : Int} (hu : A.units < cLine) : Cmps prog w A B (RK B near) (kltB near) := by
  rintro x y vx vy s Q E ⟨p, vs, rfl, hp, h1⟩ ⟨q, us, rfl, hq, h2⟩ hk h
  exact rc_lt_tuples hk hu hp hq h1 h2 rfl h
end

section
def nearB (most : Option Int) (d : Int) : Bool := match most with | none => true | some i => decide (d ≤ i)
theorem nearB_iff {most : Option Int} {d : Int} : nearB most d = true ↔ ∀ m, most = some m → d ≤ m := by
  cases most with
  | none => simp [nearB]
  | some i => simp [nearB]

inductive PJ (txt old new : List Bt) (done near : Int) (td tn : Tok) (most : Option Int) (mv : Value) (F ll ol nl : Addr) (i : Nat) (B' : Kn) (m' : Str → Option Value) (led' : Led) : Prop
  | mk (ys : List Value) (as : List Int) (e : led' = [(F, LP ys)]) (j1 : All2 (RK B' near) ys as) (j2 : ∀ a, a ∈ as ↔ (Good txt old new done near most a ∧ a < (i : Nat))) (j3 : ys.length ≤ i) (m1 : m' (Str.ofString "some") = some (.ref F)) (m2 : m' (Str.ofString "lines") = some (.ref ll)) (m3 : m' (Str.ofString "old") = some (.ref ol))
    (m4 : m' (Str.ofString "new") = some (.ref nl)) (m5 : m' (Str.ofString "done") = some (.int done td)) (m6 : m' (Str.ofString "near") = some (.int near tn)) (m7 : m' (Str.ofString "most") = some mv) : PJ txt old new done near td tn most mv F ll ol nl i B' m' led'
inductive PM (txt old new : List Bt) (done near : Int) (most : Option Int) (Z : Shared) (G B₂ : Kn) (L : Addr) (m : Str → Option Value) (F : Addr) (i : Nat) (s' : Shared) : Prop
  | mk (B₃ : Kn) (ys' : List Value) (as' : List Int) (l : Le B₂ B₃) (k1 : All2 (RK B₃ near) ys' as') (k2 : ∀ a, a ∈ as' ↔ (Good txt old new done near most a ∧ a < (i : Nat) + 1)) (k3 : ys'.length ≤ i + 1) (I : St Z G B₃ L m [(F, LP ys')] s') : PM txt old new done near most Z G B₂ L m F i s'
theorem lplace_spec {n : Nat} {ol nl ll : Addr} {vs ovs nvs : List Value} {txt old new : List Bt} {done near : Int} {most : Option Int} {mv : Value} {td tn : Tok} {Q : Value → Shared → Prop} (hA : Ar (n + 4) A) (hB : Amb w B) (I : St Z G B L m led s)
    (hT : TxtAt B ll vs txt) (hO : TxtAt B ol ovs old) (hN : TxtAt B nl nvs new) (hd : 0 ≤ done ∧ done ≤ 1000) (hn : -1000 ≤ near ∧ near ≤ 1000) (hmv : MV most mv)
    (k : ∀ v r B' s', Le B B' → IsPlace txt old new done near most r → OV r v → St Z G B' L m led s' → Q v s') : wpAny (model prog w) A (call (.ref 160) [.ref ll, .ref ol, .ref nl, .int done td, .int near tn, mv]) Q E s := by
  refine call_fn (lp := []) (lk := led) (args := ⟨[.ref ll, .ref ol, .ref nl, .int done td, .int near tn, mv], []⟩) (binds := [("lines", .ref ll), ("old", .ref ol), ("new", .ref nl), ("done", .int done td), ("near", .int near tn), ("most", mv)]) hA I hB (by rfl) (by rfl) (BindsTo.of_eq rfl) rfl (fun G' L' m₁ s₁ A' P hP hA' hm I => ?_)
  have hl := hT.l
  have hol := hO.l
  have hnl := hN.l
  have z1 := hT.vz
  have z2 := hO.vz
  have e1 := hT.r.length
  have e2 := hO.r.length
  refine x_assign fun K₀ hK => e_list_nil I fun F s₂ I => ?_
  repeat' walk_at "sf"
  refine x_for fun K₀ hF hR => ?_
  repeat' walk_at "sf"
  rename St _ _ _ _ _ _ _ => I
  refine pi_range1 hA'.h I (by first | lia | omega) fun a' s₃ W I hS => ?_
  have base : ∀ a, a ∈ ([] : List Int) ↔ (Good txt old new done near most a ∧ a < ((0 : Nat) : Int)) := fun a => by
    constructor
    · intro h; cases h
    · rintro ⟨h1, h2⟩
      have := h1.1
      first | lia | omega
  refine loop_core W (PJ txt old new done near td tn most mv F ll ol nl) I hS
    ⟨[], [], rfl, .nil, base, Nat.le_refl _, by walk_at "lk", by walk_at "lk", by walk_at "lk", by walk_at "lk", by walk_at "lk", by walk_at "lk", by walk_at "lk"⟩ ?_ ?_
  · rintro i v B₂ m' led' G₂ s₅ E' P₂ hNx hR₂ hi' ⟨tv, rfl⟩ l2 ⟨ys, as, rfl, j1, j2, j3, m1, m2, m3, m4, m5, m6, m7⟩ I
    have hB₂ := hB.mono l2
    refine as_name (st_local I fun s₆ I => ?_)
    refine x_assign fun K₇ hK₇ => ?_
    refine cutP (fun v s' => v = .bool (nearB most (((i : Int) - near).natAbs : Nat)) ∧ St Z G₂ B₂ L' (upd m' (Str.ofString "at") (.int (i : Nat) tv)) [(F, LP ys)] s') (fun K₀ hK₀ => ?_) (fun v s₇ hv => ?_)
    · refine e_or ?_
      walk_at "st"
      walk_at "st"
      walk_at "st"
      refine is_none ?_
      cases most with
      | none =>
        have hmv : mv = .none := hmv
        subst hmv
        rw [show (Value.none == Value.none) = true from rfl]
        refine tr_bool (lit_true ?_)
        rename St _ _ _ _ _ _ _ => I
        exact hK₀ _ _ ⟨rfl, I⟩
      | some mx =>
        obtain ⟨i0, i1, ti, rfl⟩ := hmv
        rw [show (Value.int mx ti == Value.none) = false from rfl]
        refine tr_bool (lit_false ?_)
        repeat' (first | walk_at "st" | walk_at "ga")
        rename St _ _ _ _ _ _ _ => I
        exact hK₀ _ _ ⟨rfl, I⟩
    · obtain ⟨rfl, I⟩ := hv
      have skip : ¬ Good txt old new done near most (i : Int) → ∀ a, a ∈ as ↔ (Good txt old new done near most a ∧ a < (i : Nat) + 1) := fun ng a => by
        rw [j2]
        constructor
        · rintro ⟨h1, h2⟩; exact ⟨h1, by first | lia | omega⟩
        · rintro ⟨h1, h2⟩
          by_cases e : a = (i : Int)
          · subst e; exact absurd h1 ng
          · exact ⟨h1, by first | lia | omega⟩
      have add : Good txt old new done near most (i : Int) → ∀ a, a ∈ as ++ [(i : Int)] ↔ (Good txt old new done near most a ∧ a < (i : Nat) + 1) := fun g a => by
        rw [List.mem_append, j2, List.mem_singleton]
        constructor
        · rintro (⟨h1, h2⟩ | rfl)
          · exact ⟨h1, by first | lia | omega⟩
          · exact ⟨g, by first | lia | omega⟩
        · rintro ⟨h1, h2⟩
          by_cases e : a = (i : Int)
          · exact .inr e
          · exact .inl ⟨h1, by first | lia | omega⟩
      repeat' walk_at "sf"
      rename St _ _ _ _ _ _ _ => I
      refine x_ifm (PM txt old new done near most Z G₂ B₂ L' (upd (upd m' (Str.ofString "at") (.int (i : Nat) tv)) (Str.ofString "is_near") (.bool (nearB most (((i : Int) - near).natAbs : Nat)))) F i) (fun N₀ K₀ hM hK => ?_) ?_
      · walk_at "st"
        walk_at "st"
        walk_at "st"
        walk_at "st"
        walk_at "st"
        · rename nearB _ _ = true => hnear
          walk_at "st"
          rename St _ _ _ _ _ _ _ => I
          refine cutB (fun b s' => (b = true → (old ≠ [] ∨ (i : Int) = near)) ∧ (b = false → ¬ (old ≠ [] ∨ (i : Int) = near)) ∧ St Z G₂ B₂ L' (upd (upd m' (Str.ofString "at") (.int (i : Nat) tv)) (Str.ofString "is_near") (.bool (nearB most (((i : Int) - near).natAbs : Nat)))) [(F, LP ys)] s') (fun K₅ hK₅ => ?_) ?_
          · repeat' (first | walk_at "st" | walk_at "ga")
            rename St _ _ _ _ _ _ _ => I
            refine r_ne_lists eqR_B (hA'.in1) ((hol.mono l2).at I) I.headP hO.r .nil ?_
            have I := I.drop
            repeat' (first | walk_at "st" | walk_at "ga")
            · rename ¬ old = [] => ho
              rename St _ _ _ _ _ _ _ => I
              exact hK₅ _ _ ⟨fun _ => .inl ho, fun e => (nomatch e), I⟩
            · rename (i : Int) = near => hne
              rename St _ _ _ _ _ _ _ => I
              exact hK₅ _ _ ⟨fun _ => .inr hne, fun e => (nomatch e), I⟩
            · rename ¬ (i : Int) = near => hne
              rename old = [] => ho
              rename St _ _ _ _ _ _ _ => I
              exact hK₅ _ _ ⟨fun e => (nomatch e), fun _ h => h.elim (fun h => h ho) hne, I⟩
          · intro b s₅ ⟨hb1, hb2, I⟩
            refine if_split (fun hc => ?_) (fun hc => ?_)
            · have hold := hb1 hc
              clear hb1 hb2
              repeat' (first | walk_at "st" | walk_at "ga")
              rename St _ _ _ _ _ _ _ => I
              refine lfits_spec (n := n) hA'.dn hB₂ I (hT.mono l2) (hO.mono l2) (hN.mono l2) hd.1 fun s₆ I => ?_
              repeat' walk_at "st"
              · rename fitsP _ _ _ _ _ = true => hf
                have g : Good txt old new done near most (i : Int) := ⟨by first | lia | omega, by first | lia | omega, nearB_iff.mp hnear, hold, hf⟩
                refine m_append fun K₁ h₁ => ?_
                walk_at "st"
                rename St _ _ _ _ _ _ _ => I
                refine h₁ I ?_
                repeat' walk_at "st"
                rename St _ _ _ _ _ _ _ => I
                refine r_newTuple I (by simp) fun t B₃ s₇ l3 ht I => ?_
                refine r_append I (by first | lia | omega) fun s₈ I => ?_
                refine HkN.go (by assumption) ?_
                repeat' walk_at "st"
                rename St _ _ _ _ _ _ _ => I
                simp only [decide_eq_true_eq] at ht
                have hk : RK B₃ near (.ref t) (i : Int) := ⟨t, _, rfl, ht, .cons ⟨_, rfl⟩ (.cons ⟨_, rfl⟩ (.cons ⟨_, rfl⟩ .nil))⟩
                exact hM _ ⟨B₃, _, as ++ [(i : Int)], l3, (j1.imp fun _ _ q => q.mono l3).app (.cons hk .nil), add g, by simp; first | lia | omega, I⟩
              · rename fitsP _ _ _ _ _ = false => hf
                rename St _ _ _ _ _ _ _ => I
                exact hM _ ⟨B₂, _, as, Le.rfl, j1, skip (fun g => by have := g.2.2.2.2; rw [hf] at this; cases this), by first | lia | omega, I⟩
            · have hnold := hb2 hc
              repeat' (first | walk_at "st" | walk_at "ga")
              rename St _ _ _ _ _ _ _ => I
              exact hM _ ⟨B₂, _, as, Le.rfl, j1, skip (fun g => hnold g.2.2.2.1), by first | lia | omega, I⟩
        · rename nearB _ _ = false => hnear
          repeat' (first | walk_at "st" | walk_at "ga")
          rename St _ _ _ _ _ _ _ => I
          exact hM _ ⟨B₂, _, as, Le.rfl, j1, skip (fun g => by have := nearB_iff.mpr g.2.2.1; rw [hnear] at this; cases this), by first | lia | omega, I⟩
      · rintro s₈ ⟨B₃, ys', as', l3, k1, k2, k3, I⟩
        repeat' walk_at "sf"
        rename St _ _ _ _ _ _ _ => I
        exact hNx _ B₃ _ _ l3 ⟨ys', as', rfl, k1, (fun a => by rw [k2]; simp), k3, by walk_at "lk", by walk_at "lk", by walk_at "lk", by walk_at "lk", by walk_at "lk", by walk_at "lk", by walk_at "lk"⟩ I
  · rintro B₂ m' led' s₅ l2 ⟨ys, as, rfl, j1, j2, j3, m1, m2, m3, m4, m5, m6, m7⟩ I
    have hB₂ := hB.mono l2
    repeat' walk_at "st"
    rename St _ _ _ _ _ _ _ => I
    have hall : ∀ a, a ∈ as ↔ Good txt old new done near most a := fun a => by
      rw [j2]
      constructor
      · rintro ⟨h, _⟩; exact h
      · intro h; exact ⟨h, by have := h.2.1; first | lia | omega⟩
    refine r_ne_nil (hA'.units') I.swap.headP I.headP ?_
    have I := I.drop
    refine tr_bool ?_
    refine if_split (fun hc => ?_) (fun hc => ?_)
    · have hne : ys ≠ [] := by simpa using hc
      cases j1 with
      | nil => exact absurd rfl hne
      | @cons v0 d0 vs' ds' h0 hr =>
        obtain ⟨B₃, l3, hF, I⟩ := I.freezeL
        have hB₃ := hB₂.mono l3
        repeat' walk_at "st"
        rename St _ _ _ _ _ _ _ => I
        refine r_min (lt := kltB near) (Rv := RK B₃ near) hA'.h I hF (h0.mono l3) (hr.imp fun _ _ q => q.mono l3) (fun B' lB => ?_) fun v s₆ hv I => ?_
        · intro x y vx vy s' Q' E' h1 h2 hk h
          exact cmps_RK hA'.in1 x y vx vy s' Q' E' (h1.mono lB) (h2.mono lB) hk h
        · obtain ⟨i1, i2⟩ := best_min (near := near) ds' d0
          obtain ⟨p, tvs, rfl, hp, hk⟩ := hv
          have hpl : IsPlace txt old new done near most (some (bestOf (kltB near) d0 ds')) := ⟨(hall _).mp i1, fun b g hb => i2 b ((hall b).mpr g) hb⟩
          unfold keyOf at hk
          cases hk with
          | cons q1 hk =>
            cases hk with
            | cons q2 hk =>
              cases hk with
              | cons q3 hk =>
                cases hk
                obtain ⟨_, rfl⟩ := q1
                obtain ⟨_, rfl⟩ := q2
                obtain ⟨t3, rfl⟩ := q3
                repeat' walk_at "st"
                rename St _ _ _ _ _ _ _ => I
                refine t_tget (j := 2) I hp (by rfl) (by rfl) (by simp) ?_
                exact hP _ _ B₃ _ ([]) (l2.trans l3) I.clear fun J => k _ (some _) B₃ _ (l2.trans l3) hpl ⟨t3, rfl⟩ J
    · have hne : ys = [] := by simpa using hc
      subst hne
      cases j1
      repeat' walk_at "st"
      rename St _ _ _ _ _ _ _ => I
      exact hP _ _ B₂ _ ([]) l2 I.clear fun J => k _ none B₂ _ l2 (fun a g => nomatch (hall a).mpr g) rfl J
end

section
theorem ne_same {α : Type} [DecidableEq α] {a : α} : (!decide (a = a)) = false := by simp
theorem sideP_len {sign : Bt} {rows : List Rw} : (sideP sign rows).length ≤ rows.length := by
  unfold sideP
  rw [List.length_map]
  exact List.length_filter_le _ _
theorem hunk_right_spec {n : Nat} {dk rl : Addr} {rs : List Value} {rows : List Rw} {start : Int} {tst : Tok} {Q : Value → Shared → Prop} (hA : Ar (n + 10) A) (hB : Amb w B) (I : St Z G B L m led s)
    (hl : IsL B rl rs) (hr : All2 (RR B) rs rows) (hz : rs.length ≤ 100)
    (k : ∀ x a b e f rl' hd B' s', Le B B' → HunkAt B' x a b e f rl' hd → IsL B' rl' rs → St Z G B' L m led s' → Q (.ref x) s') : wpAny (model prog w) A (call (.ref 167) [.ref dk, .ref rl, .int start tst]) Q E s := by
  refine call_fn (lp := []) (lk := led) (args := ⟨[.ref dk, .ref rl, .int start tst], []⟩) (binds := [("deck", .ref dk), ("rows", .ref rl), ("start", .int start tst)]) hA I hB (by rfl) (by rfl) (BindsTo.of_eq rfl) rfl (fun G' L' m₁ s₁ A' P hP hA' hm I => ?_)
  have hlen := hr.length
  repeat' walk_at "sf"
  rename St _ _ _ _ _ _ _ => I
  refine lside_spec (n := n) hA'.dn hB I hl hr (by first | lia | omega) fun l1 B₁ v1 s₂ le₁ hl1 hv1 I => ?_
  have hB₁ := hB.mono le₁
  have z1 : v1.length ≤ 100 := by
    have := sideP_len (sign := #[45]) (rows := rows)
    rw [hv1.length]; first | lia | omega
  repeat' walk_at "sf"
  rename St _ _ _ _ _ _ _ => I
  refine lside_spec (n := n) hA'.dn hB₁ I (hl.mono le₁) (hr.imp fun _ _ q => q.mono le₁) (by first | lia | omega) fun l2 B₂ v2 s₃ le₂ hl2 hv2 I => ?_
  have hB₂ := hB₁.mono le₂
  have l02 := le₁.trans le₂
  have z2 : v2.length ≤ 100 := by
    have := sideP_len (sign := #[43]) (rows := rows)
    rw [hv2.length]; first | lia | omega
  repeat' walk_at "sf"
  rename St _ _ _ _ _ _ _ => I
  refine r_newTuple I (by simp) fun t B₃ s₄ le₃ ht I => ?_
  have hB₃ := hB₂.mono le₃
  have l03 := l02.trans le₃
  refine HkT.go (by assumption) hA' ht I fun s₅ I => ?_
  repeat' walk_at "sf"
  rename St _ _ _ _ _ _ _ => I
  refine r_newTuple I (by simp) fun nt B₄ s₆ le₄ hnt I => ?_
  have hB₄ := hB₃.mono le₄
  have l04 := l03.trans le₄
  repeat' walk_at "sf"
  rename St _ _ _ _ _ _ _ => I
  refine t_tget (j := 0) I hnt (by rfl) (by rfl) (by simp) ?_
  repeat' walk_at "sf"
  rename St _ _ _ _ _ _ _ => I
  refine t_tget (j := 1) I hnt (by rfl) (by rfl) (by simp) ?_
  repeat' walk_at "sf"
  rename St _ _ _ _ _ _ _ => I
  refine t_tget (j := 2) I hnt (by rfl) (by rfl) (by simp) ?_
  repeat' walk_at "sf"
  rename St _ _ _ _ _ _ _ => I
  refine t_tget (j := 3) I hnt (by rfl) (by rfl) (by simp) ?_
  repeat' walk_at "sf"
  rename St _ _ _ _ _ _ _ => I
  refine r_listlist I ((hl.mono l04).at I) (by first | lia | omega) fun rl' B₅ s₇ le₅ hrl' I => ?_
  have hB₅ := hB₄.mono le₅
  have l05 := l04.trans le₅
  repeat' walk_at "sf"
  rename St _ _ _ _ _ _ _ => I
  refine mkhunk6 (n := n) hA'.dn hB₅ I fun hx B₆ s₈ le₆ hH I => ?_
  have hB₆ := hB₅.mono le₆
  have l06 := l05.trans le₆
  have hr₆ := hr.imp fun _ _ q => q.mono l06
  obtain ⟨es, ho, ⟨t1, g1⟩, ⟨t2, g2⟩, ⟨t3, g3⟩, ⟨t4, g4⟩, g5, ⟨t6, g6⟩, g7, g8, g9, g10⟩ := hH.at_
  repeat' walk_at "sf"
  walk_at "st"
  repeat' walk_at "sf"
  rename St _ _ _ _ _ _ _ => I
  refine side_spec (n := n) hA'.dn hB₆ I hH (hrl'.mono le₆) hr₆ (by first | lia | omega) fun l3 B₇ v3 s₉ le₇ hl3 hv3 I => ?_
  have hB₇ := hB₆.mono le₇
  have l07 := l06.trans le₇
  have ho₇ := ho.mono le₇
  have z3 : v3.length ≤ 1000 := by
    have := sideP_len (sign := #[45]) (rows := rows)
    rw [hv3.length]; first | lia | omega
  repeat' walk_at "sf"
  rename St _ _ _ _ _ _ _ => I
  refine r_listlist I (hl3.at I) z3 fun l3' B₈ s₁₀ le₈ hl3' I => ?_
  have hB₈ := hB₇.mono le₈
  have l08 := l07.trans le₈
  have ho₈ := ho₇.mono le₈
  repeat' walk_at "sf"
  rename St _ _ _ _ _ _ _ => I
  refine lside_spec (n := n) hA'.dn hB₈ I (hl.mono l08) (hr.imp fun _ _ q => q.mono l08) (by first | lia | omega) fun l4 B₉ v4 s₁₁ le₉ hl4 hv4 I => ?_
  have hB₉ := hB₈.mono le₉
  have l09 := l08.trans le₉
  have ho₉ := ho₈.mono le₉
  repeat' walk_at "sf"
  rename St _ _ _ _ _ _ _ => I
  refine r_ne_lists eqR_B (hA'.in1) ((hl3'.mono le₉).at I) (hl4.at I) hv3 hv4 ?_
  rw [ne_same]
  repeat' walk_at "sf"
  rename St _ _ _ _ _ _ _ => I
  refine side_spec (n := n) hA'.dn hB₉ I ((hH.mono le₇).mono (le₈.trans le₉)) (hrl'.mono (((le₆.trans le₇).trans le₈).trans le₉)) (hr.imp fun _ _ q => q.mono l09) (by first | lia | omega) fun l5 Ba v5 s₁₂ lea hl5 hv5 I => ?_
  have hBa := hB₉.mono lea
  have l0a := l09.trans lea
  have hoa := ho₉.mono lea
  have z5 : v5.length ≤ 1000 := by
    have := sideP_len (sign := #[43]) (rows := rows)
    rw [hv5.length]; first | lia | omega
  repeat' walk_at "sf"
  rename St _ _ _ _ _ _ _ => I
  refine r_listlist I (hl5.at I) z5 fun l5' Bb s₁₃ leb hl5' I => ?_
  have hBb := hBa.mono leb
  have l0b := l0a.trans leb
  have hob := hoa.mono leb
  repeat' walk_at "sf"
  rename St _ _ _ _ _ _ _ => I
  refine lside_spec (n := n) hA'.dn hBb I (hl.mono l0b) (hr.imp fun _ _ q => q.mono l0b) (by first | lia | omega) fun l6 Bc v6 s₁₄ lec hl6 hv6 I => ?_
  have hBc := hBb.mono lec
  have l0c := l0b.trans lec
  have hoc := hob.mono lec
  repeat' walk_at "sf"
  rename St _ _ _ _ _ _ _ => I
  refine r_ne_lists eqR_B (hA'.in1) ((hl5'.mono lec).at I) (hl6.at I) hv5 hv6 ?_
  rw [ne_same]
  repeat' walk_at "sf"
  have l6c : Le B₆ Bc := ((((le₇.trans le₈).trans le₉).trans lea).trans leb).trans lec
  have hHc := hH.mono l6c
  walk_at "st"
  repeat' walk_at "sf"
  rename St _ _ _ _ _ _ _ => I
  refine context_spec (n := n) hA'.dn hBc I hHc (hrl'.mono (le₆.trans l6c)) (hr.imp fun _ _ q => q.mono l0c) (by first | lia | omega) fun ct Bd p q tp tq s₁₅ led hct hctx I => ?_
  have hBd := hBc.mono led
  have l0d := l0c.trans led
  have hod := hoc.mono led
  repeat' walk_at "sf"
  rename St _ _ _ _ _ _ _ => I
  refine r_tuptup I hct ?_
  repeat' walk_at "sf"
  rename St _ _ _ _ _ _ _ => I
  refine kept_spec (n := n) hA'.dn hBd I (hl.mono l0d) (hr.imp fun _ _ q => q.mono l0d) (by first | lia | omega) fun kt Be p' q' tp' tq' s₁₆ lee hkt hctx' I => ?_
  have hBe := hBd.mono lee
  have l0e := l0d.trans lee
  have hoe := hod.mono lee
  obtain ⟨rfl, rfl⟩ := hctx.uniq hctx'
  repeat' walk_at "sf"
  rename St _ _ _ _ _ _ _ => I
  refine r_ne_tuples (ds := [(p : Int), (q : Int)]) (es := [(p : Int), (q : Int)]) I (hA'.units') (hct.mono lee) hkt (.cons ⟨_, rfl⟩ (.cons ⟨_, rfl⟩ .nil)) (.cons ⟨_, rfl⟩ (.cons ⟨_, rfl⟩ .nil)) rfl ?_
  rw [ne_same]
  repeat' walk_at "sf"
  rename St _ _ _ _ _ _ _ => I
  have l6e : Le B₆ Be := (l6c.trans led).trans lee
  refine start_spec (n := n) hA'.dn hBe I (hH.mono l6e) fun tst' s₁₇ I => ?_
  have est : (if (v1.length : Int) > 0 then start + (if decide (0 < (v1.length : Int)) = true then 1 else 0) - 1 else start + (if decide (0 < (v1.length : Int)) = true then 1 else 0)) = start := by
    by_cases h : 0 < v1.length
    · simp [h]
    · simp [h]
  rw [est]
  repeat' walk_at "sf"
  · rename ¬ start = start => hc
    exact absurd rfl hc
  rename St _ _ _ _ _ _ _ => I
  refine turned_spec (n := n) hA'.dn hBe I (hH.mono l6e) (hrl'.mono (le₆.trans l6e)) (hr.imp fun _ _ q => q.mono l0e) (by first | lia | omega) fun hy rl2 rs2 Bf s₁₈ lef hY hrl2 hr2 I => ?_
  have hBf := hBe.mono lef
  have l0f := l0e.trans lef
  have hof := hoe.mono lef
  have z6 : rs2.length ≤ 100 := by rw [hr2.length, turnedP_len]; first | lia | omega
  obtain ⟨es2, ho2, ⟨u1, k1⟩, ⟨u2, k2⟩, ⟨u3, k3⟩, ⟨u4, k4⟩, k5, ⟨u6, k6⟩, k7, k8, k9, k10⟩ := hY.at_
  repeat' walk_at "sf"
  rename St _ _ _ _ _ _ _ => I
  refine r_newTuple I (by simp) fun tt Bg s₁₉ leg htt I => ?_
  have hBg := hBf.mono leg
  have l0g := l0f.trans leg
  have hog := hof.mono leg
  have ho2g := ho2.mono leg
  repeat' walk_at "sf"
  walk_at "st"
  repeat' walk_at "sf"
  rename St _ _ _ _ _ _ _ => I
  have l4g : Le B₄ Bg := (((le₅.trans le₆).trans l6e).trans lef).trans leg
  refine e_tcut fun K₁ h₁ => ?_
  repeat' walk_at "sf"
  rename St _ _ _ _ _ _ _ => I
  refine h₁ _ (hnt.mono l4g) (by simp) I (Or.inl ⟨2, _, rfl, rfl, by decide, by simp, rfl⟩) fun c1 Bh s₂₀ leh hc1 I => ?_
  have hBh := hBg.mono leh
  refine e_tcut fun K₁ h₁ => ?_
  repeat' walk_at "sf"
  rename St _ _ _ _ _ _ _ => I
  refine h₁ _ ((hnt.mono l4g).mono leh) (by simp) I (Or.inr ⟨2, _, rfl, rfl, by simp, rfl⟩) fun c2 Bi s₂₁ lei hc2 I => ?_
  have hBi := hBh.mono lei
  refine r_addT I (hc1.mono lei) hc2 (by simp) (by simp) (by simp) fun c3 Bj s₂₂ lej hc3 I => ?_
  have hBj := hBi.mono lej
  have lgj : Le Bg Bj := (leh.trans lei).trans lej
  have l0j := l0g.trans lgj
  have hoj := hog.mono lgj
  have ho2j := ho2g.mono lgj
  refine r_ne_tuples I (hA'.units') (htt.mono lgj) hc3 (.cons ⟨_, rfl⟩ (.cons ⟨_, rfl⟩ (.cons ⟨_, rfl⟩ (.cons ⟨_, rfl⟩ .nil)))) (.cons ⟨_, rfl⟩ (.cons ⟨_, rfl⟩ (.cons ⟨_, rfl⟩ (.cons ⟨_, rfl⟩ .nil)))) rfl ?_
  rw [ne_same]
  repeat' walk_at "sf"
  rename St _ _ _ _ _ _ _ => I
  have lfj : Le Bf Bj := leg.trans lgj
  refine r_listlist I ((hrl2.mono lfj).at I) (by first | lia | omega) fun l7 Bk s₂₃ lek hl7 I => ?_
  have hBk := hBj.mono lek
  have l0k := l0j.trans lek
  have hok := hoj.mono lek
  have ho2k := ho2j.mono lek
  repeat' walk_at "sf"
  rename St _ _ _ _ _ _ _ => I
  refine lturned_spec (n := n) hA'.dn hBk I (hl.mono l0k) (hr.imp fun _ _ q => q.mono l0k) (by first | lia | omega) fun l8 rs8 Bl s₂₄ lel hl8 hr8 I => ?_
  have hBl := hBk.mono lel
  have l0l := l0k.trans lel
  have hol := hok.mono lel
  have ho2l := ho2k.mono lel
  have lfl : Le Bf Bl := (lfj.trans lek).trans lel
  repeat' walk_at "sf"
  rename St _ _ _ _ _ _ _ => I
  refine r_ne_lists (eqR_R I) (hA'.in1) ((hl7.mono lel).at I) (hl8.at I) (hr2.imp fun _ _ q => q.mono lfl) hr8 ?_
  rw [ne_same]
  repeat' walk_at "sf"
  · rename ¬ True => hc
    exact absurd trivial hc
  rename St _ _ _ _ _ _ _ => I
  refine turned_spec (n := n) hA'.dn hBl I (hY.mono lfl) (hrl2.mono lfl) (hr2.imp fun _ _ q => q.mono lfl) (by first | lia | omega) fun hb rl3 rs3 Bm s₂₅ lem hK hrl3 hr3 I => ?_
  have hBm := hBl.mono lem
  have l0m := l0l.trans lem
  have hom := hol.mono lem
  have z7 : rs3.length ≤ 100 := by rw [hr3.length, turnedP_len, turnedP_len]; first | lia | omega
  obtain ⟨es3, ho3, ⟨w1, p1⟩, ⟨w2, p2⟩, ⟨w3, p3⟩, ⟨w4, p4⟩, p5, ⟨w6, p6⟩, p7, p8, p9, p10⟩ := hK.at_
  repeat' walk_at "sf"
  walk_at "st"
  repeat' walk_at "sf"
  rename St _ _ _ _ _ _ _ => I
  refine r_listlist I (hrl3.at I) (by first | lia | omega) fun l9 Bn s₂₆ len hl9 I => ?_
  have hBn := hBm.mono len
  have l0n := l0m.trans len
  have hon := hom.mono len
  repeat' walk_at "sf"
  rename St _ _ _ _ _ _ _ => I
  refine lturned_spec (n := n) hA'.dn hBn I (hl.mono l0n) (hr.imp fun _ _ q => q.mono l0n) (by first | lia | omega) fun la rsa Bo s₂₇ leo hla hra I => ?_
  have hBo := hBn.mono leo
  have l0o := l0n.trans leo
  have hoo := hon.mono leo
  have za : rsa.length ≤ 100 := by rw [hra.length, turnedP_len]; first | lia | omega
  repeat' walk_at "sf"
  rename St _ _ _ _ _ _ _ => I
  refine lturned_spec (n := n) hA'.dn hBo I hla hra (by first | lia | omega) fun lb rsb Bp s₂₈ lep hlb hrb I => ?_
  have hBp := hBo.mono lep
  have l0p := l0o.trans lep
  have hop := hoo.mono lep
  have lnp : Le Bn Bp := leo.trans lep
  repeat' walk_at "sf"
  rename St _ _ _ _ _ _ _ => I
  refine r_ne_lists (eqR_R I) (hA'.in1) ((hl9.mono lnp).at I) (hlb.at I) (hr3.imp fun _ _ q => q.mono (len.trans lnp)) hrb ?_
  rw [ne_same]
  repeat' walk_at "sf"
  rename St _ _ _ _ _ _ _ => I
  have l6p : Le B₆ Bp := (((l6e.trans lef).trans lfl).trans lem).trans (len.trans lnp)
  refine r_listlist I ((hrl'.mono (le₆.trans l6p)).at I) (by first | lia | omega) fun lc Bq s₂₉ leq hlc I => ?_
  have hBq := hBp.mono leq
  have l0q := l0p.trans leq
  repeat' walk_at "sf"
  rename St _ _ _ _ _ _ _ => I
  refine r_ne_lists (eqR_R I) (hA'.in1) (hlc.at I) ((hl.mono l0q).at I) (hr.imp fun _ _ q => q.mono l0q) (hr.imp fun _ _ q => q.mono l0q) ?_
  rw [ne_same]
  repeat' walk_at "st"
  rename St _ _ _ _ _ _ _ => I
  exact hP _ _ Bq _ ([]) l0q I fun J => k hx _ _ _ _ rl' _ Bq _ l0q (hH.mono (l6p.trans leq)) (hrl'.mono (le₆.trans (l6p.trans leq))) J
end

section
theorem r_ne_bools {b : Bool} {Q : Value → Shared → Prop} (h : Q (.bool false) s) : wpAny (model prog w) A (compareOp .NotEq (.bool b) (.bool b)) Q E s := by
  have := SeqAt.RcNeAt.bool_bool (A := A) (s := s) b b
  rw [show (!(b == b)) = false by simp] at this
  exact this prog w E Q h
theorem r_ne_OV {r : Option Int} {v v' : Value} {Q : Value → Shared → Prop} (h1 : OV r v) (h2 : OV r v') (h : Q (.bool false) s) : wpAny (model prog w) A (compareOp .NotEq v v') Q E s := by
  cases r with
  | none =>
    have h1 : v = .none := h1
    have h2 : v' = .none := h2
    subst h1 h2
    exact SeqAt.RcNeAt.none_none prog w E Q h
  | some a =>
    obtain ⟨t, rfl⟩ := h1
    obtain ⟨u, rfl⟩ := h2
    have := SeqAt.RcNeAt.int_int (A := A) (s := s) a t a u
    rw [show (!(a == a)) = false by simp] at this
    exact this prog w E Q h
theorem sideP_size {sign : Bt} {rows : List Rw} (h : ∀ r ∈ rows, r.2.size ≤ 2) : ∀ b ∈ sideP sign rows, b.size ≤ 2 := by
  intro b hb
  unfold sideP at hb
  obtain ⟨r, hr, rfl⟩ := List.mem_map.mp hb
  exact h r (List.mem_filter.mp hr).1
theorem cut_mem {α : Type} {l : List α} {lo hi : Option Int} {x : α} (h : x ∈ cutL l lo hi) : x ∈ l := by
  unfold cutL at h
  exact List.mem_of_mem_drop (List.mem_of_mem_take h)
theorem cut_len {α : Type} {l : List α} {lo hi : Option Int} : (cutL l lo hi).length ≤ l.length := by
  unfold cutL
  rw [List.length_take, List.length_drop]; first | lia | omega
inductive KJ (prog : Program) (w : World) (d c ll y lo ln : Addr) (start va : Int) (tst tva : Tok) (i : Nat) (B' : Kn) (m' : Str → Option Value) (led' : Led) : Prop
  | mk (e : led' = deck prog w d c (100 + 10 * i)) (m1 : m' (Str.ofString "deck") = some (.ref d)) (m2 : m' (Str.ofString "lines") = some (.ref ll)) (m3 : m' (Str.ofString "start") = some (.int start tst)) (m4 : m' (Str.ofString "ahead") = some (.int va tva))
    (m5 : m' (Str.ofString "image") = some (.ref y)) (m6 : m' (Str.ofString "old") = some (.ref lo)) (m7 : m' (Str.ofString "new") = some (.ref ln)) : KJ prog w d c ll y lo ln start va tst tva i B' m' led'
inductive KM (prog : Program) (w : World) (d c ll y lo ln : Addr) (start va nv done : Int) (tst tva tdn : Tok) (mv : Value) (i j : Nat) (B' : Kn) (m'' : Str → Option Value) (led' : Led) : Prop
  | mk (e : led' = deck prog w d c (100 + 10 * i + 5)) (n1 : m'' (Str.ofString "deck") = some (.ref d)) (n2 : m'' (Str.ofString "lines") = some (.ref ll)) (n3 : m'' (Str.ofString "start") = some (.int start tst)) (n4 : m'' (Str.ofString "ahead") = some (.int va tva))
    (n5 : m'' (Str.ofString "image") = some (.ref y)) (n6 : m'' (Str.ofString "old") = some (.ref lo)) (n7 : m'' (Str.ofString "new") = some (.ref ln)) (n8 : m'' (Str.ofString "done") = some (.int done tdn)) (n9 : ∃ tnr, m'' (Str.ofString "near") = some (.int (start + va + nv - 3) tnr)) (n10 : m'' (Str.ofString "most") = some mv) : KM prog w d c ll y lo ln start va nv done tst tva tdn mv i j B' m'' led'
theorem law_inner {n : Nat} {l : Addr} {vs : List Value} {fd : FuncData} {body : List Stmt} {oc : Value} {od : Option Addr} {osl : Array (Option Value)} {fa : Addr} {cdv : Value}
    (hfd : (KK w).lookup 174 = some ⟨oc, od, .func fd, osl⟩) (hbody : fd.body = .stmts body) (hA : Ar (n + 14) A) (hB : Amb w B) (I : St Z G B L m [] s) (hl : IsL B l vs) (hi : ∀ v ∈ vs, ∃ i, RI v i) (hz : vs.length ≤ 63) (hm : m (Str.ofString "script") = some (.ref l)) {P : Flow → Shared → Prop} (hP : ∀ s' B' m' led', Le B B' → St Z G B' L m' led' s' → P (.ret (.bool true)) s') :
    wpAny (model prog w) A (execs body (envOf fd.qualname fd.scope L fa cdv)) P (fun _ _ => False) s := by
  have hfd' := (show (KK w).lookup 174 = some _ from rfl).symm.trans hfd
  injection hfd' with hfd'
  injection hfd' with _ _ hfd' _
  injection hfd' with hfd'
  subst hfd'
  injection hbody with hbody
  subst hbody
  clear hfd
  repeat' walk_at "sf"
  rename St _ _ _ _ _ _ _ => I
  refine mkdeck_spec (n := n) hA.dn hB I hl hi hz fun d c B₁ s₁ l1 I => ?_
  have hB₁ := hB.mono l1
  repeat' walk_at "sf"
  rename St _ _ _ _ _ _ _ => I
  refine text_spec (n := n) (led := []) hA.dn hB₁ I (by first | lia | omega) fun ll B₂ lvs txt s₂ l2 hll hlr hls hlz I => ?_
  have hB₂ := hB₁.mono l2
  have hT : TxtAt B₂ ll lvs txt := ⟨hll, hlr, by first | lia | omega, hls⟩
  have zl : lvs.length ≤ 6 := by rw [hlr.length]; exact hlz
  repeat' walk_at "sf"
  rename St _ _ _ _ _ _ _ => I
  refine draw_spec (n := n) (led := []) hA.dn hB₂ I (by first | lia | omega) (by first | lia | omega) fun start tst s₃ st0 st1 I => ?_
  repeat' walk_at "sf"
  rename St _ _ _ _ _ _ _ => I
  refine rows_spec (n := n) (led := []) hA.dn hB₂ I (by first | lia | omega) hll hlr hls hlz (by first | lia | omega) fun rl B₃ rs s₄ l3 hrl hrp hrz I => ?_
  have hB₃ := hB₂.mono l3
  obtain ⟨rows, hrr⟩ := All2.of_mem (R := fun v r => RR B₃ v r ∧ r.2.size ≤ 2) hrp
  have hr : All2 (RR B₃) rs rows := hrr.imp fun _ _ q => q.1
  have hrs : ∀ r ∈ rows, r.2.size ≤ 2 := hrr.mem'
  have hrlen := hr.length
  repeat' walk_at "sf"
  rename St _ _ _ _ _ _ _ => I
  refine hunk_right_spec (n := n) hA.dn hB₃ I hrl hr (by first | lia | omega) fun hx a b e f rl' hd B₄ s₅ l4 hH hrl' I => ?_
  have hB₄ := hB₃.mono l4
  repeat' walk_at "sf"
  refine x_if fun K₀ hK => ?_
  refine wpAny_isTrue_Compare1 ?_
  walk_at "st"
  walk_at "st"
  refine is_none ?_
  rw [show (Value.ref hx == Value.none) = false from rfl]
  refine tr_bool (Hk.go (by assumption) (lit_false ?_))
  repeat' walk_at "sf"
  rename St _ _ _ _ _ _ _ => I
  refine kept_spec (n := n) hA.dn hB₄ I (hrl.mono l4) (hr.imp fun _ _ q => q.mono l4) (by first | lia | omega) fun kt B₅ p q tp tq s₆ l5 hkt hctx I => ?_
  have hB₅ := hB₄.mono l5
  have hpq := hctx.c1
  repeat' walk_at "sf"
  rename St _ _ _ _ _ _ _ => I
  refine t_tget (j := 0) I hkt (by rfl) (by rfl) (by simp) ?_
  repeat' walk_at "sf"
  rename St _ _ _ _ _ _ _ => I
  refine draw_spec (n := n) (led := []) hA.dn hB₅ I (by first | lia | omega) (by first | lia | omega) fun va tva s₇ va0 va1 I => ?_
  repeat' walk_at "sf"
  rename St _ _ _ _ _ _ _ => I
  refine t_tget (j := 1) I hkt (by rfl) (by rfl) (by simp) ?_
  repeat' walk_at "sf"
  rename St _ _ _ _ _ _ _ => I
  refine draw_spec (n := n) (led := []) hA.dn hB₅ I (by first | lia | omega) (by first | lia | omega) fun vb tvb s₈ vb0 vb1 I => ?_
  repeat' walk_at "sf"
  have I := deck_mono (led := []) (T' := 100) I (by first | lia | omega)
  refine r_newTuple I (by simp) fun tt B₆ s₉ l6 htt I => ?_
  have hB₆ := hB₅.mono l6
  refine HkT.go (by assumption) hA htt I fun s₁₀ I => ?_
  repeat' walk_at "sf"
  rename St _ _ _ _ _ _ _ => I
  have l46 := l5.trans l6
  have l36 := l4.trans l46
  refine mkimage (n := n) hA.dn hB₆ I (hH.mono l46) (hrl'.mono l46) (hr.imp fun _ _ q => q.mono l36) (by first | lia | omega) fun y ol nl ovs nvs B₇ s₁₁ l7 hY hol hor hnl hnr I => ?_
  have hB₇ := hB₆.mono l7
  repeat' walk_at "sf"
  rename St _ _ _ _ _ _ _ => I
  have l37 := l36.trans l7
  refine e_slice fun K₁ h₁ => ?_
  repeat' walk_at "sf"
  rename St _ _ _ _ _ _ _ => I
  refine r_len I ((hrl.mono l37).at I) (by first | lia | omega) fun tlen s₁₂ I => ?_
  repeat' walk_at "sf"
  rename St _ _ _ _ _ _ _ => I
  refine h₁ ((hrl.mono l37).at I) (by first | lia | omega) (.int _ _) (.int _ _) I fun kl s₁₃ I => ?_
  rw [hrlen] at I
  obtain ⟨B₈, l8, hkl, I⟩ := I.freezeL
  have hB₈ := hB₇.mono l8
  have l38 := l37.trans l8
  have hkr := (hr.imp fun _ _ q => q.mono l38).cut (some va) (some ((rows.length : Int) - vb))
  have hkz : (cutL rs (some va) (some ((rows.length : Int) - vb))).length ≤ 100 := by have := cut_len (l := rs) (lo := some va) (hi := some ((rows.length : Int) - vb)); first | lia | omega
  have hkz' : (cutL rows (some va) (some ((rows.length : Int) - vb))).length ≤ 100 := by have := cut_len (l := rows) (lo := some va) (hi := some ((rows.length : Int) - vb)); first | lia | omega
  have hks : ∀ r ∈ cutL rows (some va) (some ((rows.length : Int) - vb)), r.2.size ≤ 2 := fun r h => hrs r (cut_mem h)
  generalize hleft : cutL rows (some va) (some ((rows.length : Int) - vb)) = left at hkr hkz' hks hor hnr
  repeat' walk_at "sf"
  rename St _ _ _ _ _ _ _ => I
  refine lside_spec (n := n) hA.dn hB₈ I hkl hkr (by first | lia | omega) fun lo B₉ vo s₁₄ l9 hlo hvo I => ?_
  have hB₉ := hB₈.mono l9
  repeat' walk_at "sf"
  rename St _ _ _ _ _ _ _ => I
  refine lside_spec (n := n) hA.dn hB₉ I (hkl.mono l9) (hkr.imp fun _ _ q => q.mono l9) (by first | lia | omega) fun ln Ba vn s₁₅ la hln hvn I => ?_
  have hBa := hB₉.mono la
  repeat' walk_at "sf"
  rename St _ _ _ _ _ _ _ => I
  refine r_newTuple I (by simp) fun t2 Bb s₁₆ lb ht2 I => ?_
  have hBb := hBa.mono lb
  refine HkT.go (by assumption) hA ht2 I fun s₁₇ I => ?_
  repeat' walk_at "sf"
  have l7b : Le B₇ Bb := ((l8.trans l9).trans la).trans lb
  have z1 := sideP_len (sign := #[45]) (rows := left)
  have z2 := sideP_len (sign := #[43]) (rows := left)
  have hYb := hY.mono l7b
  have hTb := hT.mono ((l3.trans l37).trans l7b)
  have hO : TxtAt Bb ol ovs (sideP #[45] left) := ⟨hol.mono l7b, hor, by first | lia | omega, sideP_size hks⟩
  have hN : TxtAt Bb nl nvs (sideP #[43] left) := ⟨hnl.mono l7b, hnr, by first | lia | omega, sideP_size hks⟩
  have hO' : TxtAt Bb lo vo (sideP #[45] left) := ⟨(hlo.mono la).mono lb, hvo, by first | lia | omega, sideP_size hks⟩
  have hN' : TxtAt Bb ln vn (sideP #[43] left) := ⟨hln.mono lb, hvn, by first | lia | omega, sideP_size hks⟩
  obtain ⟨es, hyx, g1, g2, g3, g4⟩ := hYb.at_
  walk_at "st"
  repeat' walk_at "sf"
  rename St _ _ _ _ _ _ _ => I
  refine r_listlist I (hO.l.at I) (by have := hO.vz; first | lia | omega) fun lc Bc s₁₈ lc' hlc I => ?_
  have hBc := hBb.mono lc'
  have hyc := hyx.mono lc'
  repeat' walk_at "sf"
  rename St _ _ _ _ _ _ _ => I
  refine r_ne_lists eqR_B (hA.in1) (hlc.at I) ((hO'.l.mono lc').at I) hO.r hO'.r ?_
  rw [ne_same]
  repeat' walk_at "sf"
  rename St _ _ _ _ _ _ _ => I
  refine r_listlist I ((hN.l.mono lc').at I) (by have := hN.vz; first | lia | omega) fun ld Bd s₁₉ ld' hld I => ?_
  have hBd := hBc.mono ld'
  have lbd := lc'.trans ld'
  repeat' walk_at "sf"
  rename St _ _ _ _ _ _ _ => I
  refine r_ne_lists eqR_B (hA.in1) (hld.at I) ((hN'.l.mono lbd).at I) hN.r hN'.r ?_
  rw [ne_same]
  repeat' walk_at "sf"
  have hYd := hYb.mono lbd
  have hTd := hTb.mono lbd
  have hOd := hO.mono lbd
  have hNd := hN.mono lbd
  have hOd' := hO'.mono lbd
  have hNd' := hN'.mono lbd
  refine x_for fun K₀ hF hR => ?_
  repeat' walk_at "sf"
  rename St _ _ _ _ _ _ _ => I
  refine pi_range1 hA.h I (by first | lia | omega) fun a₁ s₂₀ W I hS => ?_
  refine loop_core W (KJ prog w d c ll y lo ln start va tst tva) I hS ⟨rfl, by walk_at "lk", by walk_at "lk", by walk_at "lk", by walk_at "lk", by walk_at "lk", by walk_at "lk", by walk_at "lk"⟩ ?_ ?_
  · rintro i v Be m' led' G₂ s₂₁ E' P₂ hNx hR₂ hi' ⟨tv, rfl⟩ le' ⟨rfl, m1, m2, m3, m4, m5, m6, m7⟩ I
    have hBe := hBd.mono le'
    have hi2 : i ≤ 1 := by have : (2 : Int).toNat = 2 := rfl; first | lia | omega
    repeat' walk_at "sf"
    rename St _ _ _ _ _ _ _ => I
    refine draw_spec (n := n) (led := []) hA.dn hBe I (by first | lia | omega) (by first | lia | omega) fun done tdn s₂₂ dn0 dn1 I => ?_
    repeat' walk_at "sf"
    rename St _ _ _ _ _ _ _ => I
    refine draw_spec (n := n) (led := []) hA.dn hBe I (by first | lia | omega) (by first | lia | omega) fun nv tnv s₂₃ nv0 nv1 I => ?_
    repeat' walk_at "sf"
    rename St _ _ _ _ _ _ _ => I
    refine r_newTuple I (by simp) fun t3 Bf s₂₄ lf ht3 I => ?_
    have hBf := hBe.mono lf
    refine HkT.go (by assumption) hA ht3 I fun s₂₅ I => ?_
    repeat' walk_at "sf"
    rename St _ _ _ _ _ _ _ => I
    refine r_newListK I (by simp) fun ml Bg s₂₆ lg hml I => ?_
    have hBg := hBf.mono lg
    repeat' walk_at "sf"
    rename St _ _ _ _ _ _ _ => I
    refine draw_spec (n := n) (led := []) hA.dn hBg I (by first | lia | omega) (by first | lia | omega) fun mi tmi s₂₇ mi0 mi1 I => ?_
    refine t_lget (hml.at I) mi0 (by simp; first | lia | omega) (by simp) fun mv hmv' => ?_
    obtain ⟨most, hmv⟩ : ∃ most, MV most mv := by
      have := List.mem_of_getElem? hmv'
      simp at this
      rcases this with rfl | rfl | rfl | rfl | rfl
      · exact ⟨none, rfl⟩
      · exact ⟨some 0, by decide, by decide, _, rfl⟩
      · exact ⟨some 1, by decide, by decide, _, rfl⟩
      · exact ⟨some 2, by decide, by decide, _, rfl⟩
      · exact ⟨some 9, by decide, by decide, _, rfl⟩
    repeat' walk_at "sf"
    rename St _ _ _ _ _ _ _ => I
    have I := deck_mono (led := []) (T' := 100 + 10 * i + 5) I (by first | lia | omega)
    have leg : Le Bd Bg := (le'.trans lf).trans lg
    have hYg := hYd.mono leg
    have hTg := hTd.mono leg
    have hOg := hOd.mono leg
    have hNg := hNd.mono leg
    have hOg' := hOd'.mono leg
    have hNg' := hNd'.mono leg
    obtain ⟨es, hyg, g1, g2, g3, g4⟩ := hYg.at_
    have hllg := hTg.l
    have hlz' := hTg.vz
    refine x_for fun K₀ hF hR => ?_
    repeat' walk_at "sf"
    rename St _ _ _ _ _ _ _ => I
    refine pi_range1 hA.h I (by first | lia | omega) fun a₂ s₂₈ W₂ I hS₂ => ?_
    refine loop_core W₂ (KM prog w d c ll y lo ln start va nv done tst tva tdn mv i)
      I hS₂ ⟨rfl, by walk_at "lk", by walk_at "lk", by walk_at "lk", by walk_at "lk", by walk_at "lk", by walk_at "lk", by walk_at "lk", by walk_at "lk", ⟨_, by walk_at "lk"⟩, by walk_at "lk"⟩ ?_ ?_
    · rintro j v Bh m'' led' G₃ s₂₉ E' P₃ hNx hR₃ hj' ⟨tj, rfl⟩ lh ⟨rfl, n1, n2, n3, n4, n5, n6, n7, n8, ⟨tnr, n9⟩, n10⟩ I
      have hBh := hBg.mono lh
      have hyh := hyg.mono lh
      repeat' walk_at "sf"
      rename St _ _ _ _ _ _ _ => I
      refine ifits_spec (n := n) hA.dn hBh I (hYg.mono lh) (hTg.mono lh) (hOg.mono lh) (hNg.mono lh) dn0 fun s₃₀ I => ?_
      refine tr_bool (if_split (fun hf => ?_) (fun hf => ?_))
      all_goals
        repeat' walk_at "sf"
        walk_at "st"
        repeat' walk_at "sf"
        rename St _ _ _ _ _ _ _ => I
        refine lfits_spec (n := n) hA.dn hBh I (hTg.mono lh) (hOg'.mono lh) (hNg'.mono lh) dn0 fun s₃₁ I => ?_
        rw [hf]
        refine r_ne_bools ?_
        repeat' walk_at "sf"
        rename St _ _ _ _ _ _ _ => I
        exact hNx _ Bh _ _ Le.rfl ⟨rfl, by walk_at "lk", by walk_at "lk", by walk_at "lk", by walk_at "lk", by walk_at "lk", by walk_at "lk", by walk_at "lk", by walk_at "lk", ⟨tnr, by walk_at "lk"⟩, by walk_at "lk"⟩ I
    · rintro Bh m'' led' s₂₉ lh ⟨rfl, n1, n2, n3, n4, n5, n6, n7, n8, ⟨tnr, n9⟩, n10⟩ I
      have hBh := hBg.mono lh
      have hyh := hyg.mono lh
      refine HkF.go (by assumption) ?_
      walk_at "st"
      repeat' walk_at "sf"
      rename St _ _ _ _ _ _ _ => I
      refine place_spec (n := n) hA.dn hBh I (hYg.mono lh) (hTg.mono lh) (hOg.mono lh) (hNg.mono lh) ⟨dn0, by first | lia | omega⟩ (by first | lia | omega) hmv fun v1 r1 Bi s₃₀ li hp1 hv1 I => ?_
      have hBi := hBh.mono li
      repeat' walk_at "sf"
      rename St _ _ _ _ _ _ _ => I
      refine lplace_spec (n := n) hA.dn hBi I ((hTg.mono lh).mono li) ((hOg'.mono lh).mono li) ((hNg'.mono lh).mono li) ⟨dn0, by first | lia | omega⟩ (by first | lia | omega) hmv fun v2 r2 Bj s₃₁ lj hp2 hv2 I => ?_
      have hBj := hBi.mono lj
      have er := hp1.uniq hp2
      subst er
      refine r_ne_OV hv1 hv2 ?_
      repeat' walk_at "sf"
      rename St _ _ _ _ _ _ _ => I
      exact hNx _ Bj _ _ (((lf.trans lg).trans lh).trans (li.trans lj)) ⟨rfl, by walk_at "lk", by walk_at "lk", by walk_at "lk", by walk_at "lk", by walk_at "lk", by walk_at "lk", by walk_at "lk"⟩ (deck_mono (led := []) I (by first | lia | omega))
  · rintro Be m' led' s₂₁ le' ⟨rfl, m1, m2, m3, m4, m5, m6, m7⟩ I
    repeat' walk_at "sf"
    rename St _ _ _ _ _ _ _ => I
    exact hP _ _ _ _ ((((((l1.trans l2).trans l3).trans l37).trans l7b).trans lbd).trans le') I
end

section
def B0 (h : Heap) (L : Addr) : Kn := fun a => if a = L then none else h.get? a
theorem B0_of {h : Heap} {L a : Addr} {o : Obj} (h1 : a ≠ L) (h2 : h.get? a = some o) : B0 h L a = some o := by unfold B0; rw [if_neg h1]; exact h2
theorem start_st {s : Shared} {h₀ h : Heap} (F : Fr h₀ L h m) (hs : s.heap = h) : St s (fun _ => none) (B0 h L) L m [] s := by
  subst hs
  refine ⟨⟨s.heap, s.toks, rfl⟩, F.ns, fun a o e => ?_, (fun a o e => nomatch e), (fun a o e => nomatch e), (by unfold B0; rw [if_pos rfl]), rfl, (fun p hp => nomatch hp), (fun p hp => nomatch hp), (fun p hp => nomatch hp), (fun p hp => nomatch hp), List.nodup_nil⟩
  unfold B0 at e
  split at e
  · cases e
  · exact e
theorem fr_ne {h₀ h : Heap} {a : Addr} {o : Obj} (F : Fr h₀ L h m) (e : h₀.get? a = some o) : a ≠ L := Nat.ne_of_lt (Nat.lt_of_lt_of_le (Heap.lt_size e) F.above)
theorem start_amb {h₀ h : Heap} {p : Program} {loose : List Str} {mg mb : Str → Option Value} (F : Fr h₀ L h m) (X : (KK w).In h₀) (T : TopRead p loose mg mb h₀) : Amb w (B0 h L) := by
  refine ⟨fun a o e => B0_of (fr_ne F (X a o e)) (F.keep _ _ (X a o e)), ?_, ?_⟩
  · obtain ⟨o, es, ep, e, hd, hk, hf⟩ := T.b
    exact ⟨o, es, ep, B0_of (fr_ne F e) (F.keep _ _ e), hd, hk, fun x hx => (by have := T.builtins x hx; have q := hf x; rw [← this]; first | exact q | exact q.symm)⟩
  · obtain ⟨mc, ⟨o, es, ep, e, hd, hk, hf⟩, hn⟩ := T.nolimit
    exact ⟨o, es, ep, B0_of (fr_ne F e) (F.keep _ _ e), hd, hk, (by have q := hf "sys.recursionlimit"; rw [hn] at q; first | exact q | exact q.symm)⟩
theorem start_list {h₀ h : Heap} {l : Addr} {vs : List Value} (F : Fr h₀ L h m) (hl : h₀.IsList l vs.toArray) : IsL (B0 h L) l vs := by
  obtain ⟨o, e, c, n, d⟩ := hl
  exact ⟨o, B0_of (fr_ne F e) (F.keep _ _ e), c, n, d⟩
theorem end_fr {h₀ h : Heap} {B' : Kn} {m' : Str → Option Value} {s' : Shared} (F : Fr h₀ L h m) (J : St Z G B' L m' led s') (l : Le (B0 h L) B') : Fr h₀ L s'.heap m' :=
  ⟨J.ns, fun b o e => J.kn _ _ (l _ _ (B0_of (fr_ne F e) (F.keep _ _ e))), F.above⟩
theorem ints_of {vs : List Value} {ns : List Int} (h : IntsAre vs ns) : ∀ v ∈ vs, ∃ i, RI v i := by
  induction h with
  | nil => intro v hv; cases hv
  | cons n t _ ih =>
    intro v hv
    rcases List.mem_cons.mp hv with rfl | hv
    · exact ⟨_, _, rfl⟩
    · exact ih v hv
end

end Mine
end

open Mine in
theorem PySem.Challenge.cw_pb0087_01_holds : PySem.Challenge.rw_pb0087_01.Holds := by
  refine hd (by
    k_go0
    rename Fr _ _ _ _ => F
    rename Frag.In _ _ => KX
    rename Top _ _ _ _ _ _ => T
    rename IntsAre _ _ => hI
    rename Heap.IsList _ _ _ => hL
    rename ¬ _ < _ => hc
    rename (_ = #[]) => hg
    have hlen := hI.length
    have hA : Ar (5 + 14) callerA := ⟨rfl, by decide, by decide⟩
    refine wpAny_mono (law_inner (n := 4) (P := fun f s' => f = .ret (.bool true) ∧ ∃ B' m' led', Le (B0 _ _) B' ∧ St _ _ B' _ m' led' s') (hfd := rfl) (hbody := rfl) (hA.deeper _) (start_amb F KX (topRead_of T)) (start_st F rfl) (start_list F hL) (ints_of hI) (by omega) (by rfl) (fun s' B' m' led' q1 q2 => ⟨rfl, B', m', led', q1, q2⟩)) (fun f s' q => ?_) (fun _ _ q => q.elim)
    obtain ⟨rfl, B', m', led', l, J⟩ := q
    have hsame := J.same
    obtain ⟨h', tk, rfl⟩ := hsame
    refine goodW_bool (end_fr F J l) hg (raisesW_false ?_) ?_
    · wrow_none_raised
    · wrow_post)
