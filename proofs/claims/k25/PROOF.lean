import PyProof.Rows.All
import Wide.All
import OpenK.AllK
import Wide.FinOn
import HandS.ForMost
import HandS.Exc
import HandS.ExcOwn
import HandS.WordsExc
import HandS.TryOnly
import HandS.SortInts
import HandS.Conv
import HandS.RevRange
import HandS.IsInst
import HandS.TupAny
import HandS.Zip
import HandS.Rev
import HandS.Evl
import HandS.ExcIs
import HandS.RevTup
import HandS.More
import HandS.TupMul
import HandS.ClsMeth
import KE.KDictKeyed
import PySem.Challenge.RW_stillhands_k25_whole_none_where_there_is
set_option Elab.async false
set_option linter.all false
set_option maxRecDepth 100000
set_option maxHeartbeats 4000000
/-! Symbolic heaps: lists of parts, each part a set of cells of its own; readings run over them. -/
namespace Sp
open PySem L2

abbrev Cell := Addr × HO
abbrev HP := List Cell → Prop
@[irreducible] def pt (a : Addr) (o : HO) : HP := fun L => L = [(a, o)]
def stars : List HP → HP
  | [] => fun L => L = []
  | p :: ps => fun L => ∃ L1 L2, L = L1 ++ L2 ∧ p L1 ∧ stars ps L2
def Own (H : Hp) (L : List Cell) : Prop := (L.map (·.1)).Nodup ∧ ∀ c ∈ L, H c.1 = some c.2
@[irreducible] def Sat (H : Hp) (ps : List HP) : Prop := ∃ L, Own H L ∧ stars ps L
@[irreducible] def pur (φ : Prop) : HP := fun L => L = [] ∧ φ
@[irreducible] def exh {α : Type} (f : α → HP) : HP := fun L => ∃ x, f x L
@[irreducible] def grp (qs : List HP) : HP := stars qs

theorem Own.perm {H : Hp} {L L' : List Cell} (p : L.Perm L') (h : Own H L) : Own H L' :=
  ⟨(p.map _).nodup_iff.mp h.1, fun c hc => h.2 c (p.mem_iff.mpr hc)⟩
theorem stars_perm {ps ps' : List HP} (p : ps.Perm ps') : ∀ {L}, stars ps L → ∃ L', L.Perm L' ∧ stars ps' L' := by
  induction p with
  | nil => intro L h; exact ⟨L, .refl _, h⟩
  | cons x _ ih =>
    rintro L ⟨L1, L2, rfl, h1, h2⟩
    obtain ⟨L', p', h'⟩ := ih h2
    exact ⟨L1 ++ L', p'.append_left L1, L1, L', rfl, h1, h'⟩
  | swap x y l =>
    rintro L ⟨L1, L2, rfl, h1, L3, L4, rfl, h2, h3⟩
    refine ⟨L3 ++ (L1 ++ L4), ?_, L3, L1 ++ L4, rfl, h2, L1, L4, rfl, h1, h3⟩
    rw [← List.append_assoc, ← List.append_assoc]
    exact (List.perm_append_comm).append_right L4
  | trans _ _ ih1 ih2 =>
    intro L h
    obtain ⟨L1, p1, h1⟩ := ih1 h
    obtain ⟨L2, p2, h2⟩ := ih2 h1
    exact ⟨L2, p1.trans p2, h2⟩
theorem stars_mem {p : HP} {ps : List HP} (m : p ∈ ps) : ∀ {L}, stars ps L → ∃ L1, p L1 ∧ ∀ c ∈ L1, c ∈ L := by
  induction m with
  | head r => rintro L ⟨L1, L2, rfl, h1, _⟩; exact ⟨L1, h1, fun c hc => List.mem_append_left _ hc⟩
  | tail b m ih =>
    rintro L ⟨L1, L2, rfl, _, h2⟩
    obtain ⟨L3, h3, k⟩ := ih h2
    exact ⟨L3, h3, fun c hc => List.mem_append_right _ (k c hc)⟩
theorem stars_append {ps qs : List HP} : ∀ {L}, stars (ps ++ qs) L ↔ ∃ L1 L2, L = L1 ++ L2 ∧ stars ps L1 ∧ stars qs L2 := by
  induction ps with
  | nil =>
    intro L
    constructor
    · intro h; exact ⟨[], L, rfl, rfl, h⟩
    · rintro ⟨L1, L2, rfl, h1, h2⟩
      have h1 : L1 = [] := h1
      subst h1; exact h2
  | cons p ps ih =>
    intro L
    constructor
    · rintro ⟨L1, L2, rfl, h1, h2⟩
      obtain ⟨L3, L4, rfl, h3, h4⟩ := ih.mp h2
      exact ⟨L1 ++ L3, L4, (List.append_assoc _ _ _).symm, ⟨L1, L3, rfl, h1, h3⟩, h4⟩
    · rintro ⟨L1, L2, rfl, ⟨L3, L4, rfl, h3, h4⟩, h2⟩
      exact ⟨L3, L4 ++ L2, List.append_assoc _ _ _, h3, ih.mpr ⟨L4, L2, rfl, h4, h2⟩⟩

section
variable {H : Hp} {ps ps' qs R : List HP} {a : Addr} {o o' : HO}
theorem Sat.perm (p : ps.Perm ps') (h : Sat H ps) : Sat H ps' := by
  unfold Sat at *
  obtain ⟨L, hO, hL⟩ := h
  obtain ⟨L', p', h'⟩ := stars_perm p hL
  exact ⟨L', hO.perm p', h'⟩
theorem Sat.drop {p : HP} (h : Sat H (p :: ps)) : Sat H ps := by
  unfold Sat at *
  obtain ⟨L, hO, L1, L2, rfl, _, h2⟩ := h
  refine ⟨L2, ⟨?_, fun c hc => hO.2 c (List.mem_append_right _ hc)⟩, h2⟩
  have := hO.1
  rw [List.map_append] at this
  exact (List.nodup_append.mp this).2.1
theorem Sat.get (h : Sat H ps) (m : pt a o ∈ ps) : H a = some o := by
  unfold Sat at h
  obtain ⟨L, hO, hL⟩ := h
  obtain ⟨L1, h1, k⟩ := stars_mem m hL
  unfold pt at h1
  subst h1
  exact hO.2 (a, o) (k _ (List.mem_cons_self ..))
theorem Sat.pur {φ : Prop} : Sat H (pur φ :: ps) ↔ φ ∧ Sat H ps := by
  unfold Sat Sp.pur
  constructor
  · rintro ⟨L, hO, L1, L2, rfl, ⟨rfl, h1⟩, h2⟩
    exact ⟨h1, L2, hO, h2⟩
  · rintro ⟨h1, L, hO, h2⟩
    exact ⟨L, hO, [], L, rfl, ⟨rfl, h1⟩, h2⟩
theorem Sat.ex {α : Type} {f : α → HP} : Sat H (exh f :: ps) ↔ ∃ x, Sat H (f x :: ps) := by
  unfold Sat exh
  constructor
  · rintro ⟨L, hO, L1, L2, rfl, ⟨x, h1⟩, h2⟩
    exact ⟨x, _, hO, L1, L2, rfl, h1, h2⟩
  · rintro ⟨x, L, hO, L1, L2, rfl, h1, h2⟩
    exact ⟨_, hO, L1, L2, rfl, ⟨x, h1⟩, h2⟩
theorem Sat.grp : Sat H (grp qs :: ps) ↔ Sat H (qs ++ ps) := by
  unfold Sat Sp.grp
  constructor
  · rintro ⟨L, hO, L1, L2, rfl, h1, h2⟩
    exact ⟨_, hO, stars_append.mpr ⟨L1, L2, rfl, h1, h2⟩⟩
  · rintro ⟨L, hO, h⟩
    obtain ⟨L1, L2, rfl, h1, h2⟩ := stars_append.mp h
    exact ⟨_, hO, L1, L2, rfl, h1, h2⟩
theorem Sat.new (h : Sat H ps) (hp : H a = none) : Sat (upd H a o) (pt a o :: ps) := by
  unfold Sat at *
  obtain ⟨L, hO, hL⟩ := h
  have nm : ∀ c ∈ L, c.1 ≠ a := fun c hc e => by
    have := hO.2 c hc
    rw [e, hp] at this; cases this
  refine ⟨(a, o) :: L, ⟨List.nodup_cons.mpr ⟨fun m => ?_, hO.1⟩, fun c hc => ?_⟩, [(a, o)], L, rfl, by unfold pt; rfl, hL⟩
  · obtain ⟨c, hc, e⟩ := List.mem_map.mp m
    exact nm c hc e
  · rcases List.mem_cons.mp hc with e | hc
    · subst e; exact upd_same
    · rw [upd_ne (nm c hc)]; exact hO.2 c hc
theorem Sat.write (h : Sat H (pt a o :: ps)) : Sat (upd H a o') (pt a o' :: ps) := by
  unfold Sat at *
  obtain ⟨L, hO, L1, L2, rfl, h1, h2⟩ := h
  unfold pt at h1
  subst h1
  have nd : (a :: L2.map (·.1)).Nodup := hO.1
  obtain ⟨n1, n2⟩ := List.nodup_cons.mp nd
  have nm : ∀ c ∈ L2, c.1 ≠ a := fun c hc e => n1 (List.mem_map.mpr ⟨c, hc, e⟩)
  refine ⟨(a, o') :: L2, ⟨List.nodup_cons.mpr ⟨n1, n2⟩, fun c hc => ?_⟩, [(a, o')], L2, rfl, by unfold pt; rfl, h2⟩
  rcases List.mem_cons.mp hc with e | hc
  · subst e; exact upd_same
  · rw [upd_ne (nm c hc)]; exact hO.2 c (List.mem_cons_of_mem _ hc)
theorem Sat.nil : Sat H [] := by
  unfold Sat
  exact ⟨[], ⟨List.nodup_nil, fun c hc => nomatch hc⟩, rfl⟩
end

/-! ### one part taken out, several parts taken out -/
inductive Pick (c : HP) : List HP → List HP → Prop
  | hd {r : List HP} : Pick c (c :: r) r
  | tl {d : HP} {r R : List HP} (h : Pick c r R) : Pick c (d :: r) (d :: R)
theorem Pick.perm {c : HP} {ps R : List HP} (h : Pick c ps R) : ps.Perm (c :: R) := by
  induction h with
  | hd => exact .refl _
  | tl _ ih => exact (List.Perm.cons _ ih).trans (List.Perm.swap _ _ _)
theorem Pick.mem {c : HP} {ps R : List HP} (h : Pick c ps R) : c ∈ ps := h.perm.mem_iff.mpr (List.mem_cons_self ..)
inductive Picks : List HP → List HP → List HP → Prop
  | nil {ps : List HP} : Picks [] ps ps
  | cons {c : HP} {cs ps R1 R : List HP} (h : Pick c ps R1) (t : Picks cs R1 R) : Picks (c :: cs) ps R
theorem Picks.perm {cs ps R : List HP} (h : Picks cs ps R) : ps.Perm (cs ++ R) := by
  induction h with
  | nil => exact .refl _
  | cons h _ ih => exact h.perm.trans (.cons _ ih)
/-- a part replaced in its place -/
inductive Rep (c d : HP) : List HP → List HP → Prop
  | hd {r : List HP} : Rep c d (c :: r) (d :: r)
  | tl {e : HP} {r R : List HP} (h : Rep c d r R) : Rep c d (e :: r) (e :: R)
theorem Rep.two {c d : HP} {ps ps' : List HP} (h : Rep c d ps ps') : ∃ R, ps.Perm (c :: R) ∧ ps'.Perm (d :: R) := by
  induction h with
  | hd => exact ⟨_, .refl _, .refl _⟩
  | tl _ ih =>
    obtain ⟨R, p1, p2⟩ := ih
    exact ⟨_ :: R, (List.Perm.cons _ p1).trans (List.Perm.swap _ _ _), (List.Perm.cons _ p2).trans (List.Perm.swap _ _ _)⟩
theorem Rep.mem {c d : HP} {ps ps' : List HP} (h : Rep c d ps ps') : c ∈ ps := by
  obtain ⟨R, p, _⟩ := h.two
  exact p.mem_iff.mpr (List.mem_cons_self ..)
theorem Sat.rep {H : Hp} {a : Addr} {o o' : HO} {ps ps' : List HP} (h : Sat H ps) (r : Rep (pt a o) (pt a o') ps ps') : Sat (upd H a o') ps' := by
  obtain ⟨R, p, q⟩ := r.two
  exact ((h.perm p).write).perm q.symm

/-! ### what follows from what -/
def Ent (ps ps' : List HP) : Prop := ∀ H, Sat H ps → Sat H ps'
theorem Ent.refl (ps : List HP) : Ent ps ps := fun _ h => h
theorem Ent.rf {ps : List HP} : Ent ps ps := fun _ h => h
theorem Ent.trans {a b c : List HP} (h : Ent a b) (k : Ent b c) : Ent a c := fun H x => k H (h H x)
theorem Ent.perm {a b : List HP} (p : a.Perm b) : Ent a b := fun _ h => h.perm p
theorem Ent.picks {cs ps R : List HP} (h : Picks cs ps R) : Ent ps (cs ++ R) := Ent.perm h.perm
theorem Ent.drop {p : HP} {ps : List HP} : Ent (p :: ps) ps := fun _ h => h.drop
theorem Ent.dropAll : ∀ {cs ps : List HP}, Ent (cs ++ ps) ps
  | [], _ => Ent.refl _
  | _ :: _, _ => Ent.drop.trans Ent.dropAll
theorem Ent.cons {p : HP} {ps ps' : List HP} (h : Ent ps ps') : Ent (p :: ps) (p :: ps') := by
  intro H x
  unfold Sat at *
  obtain ⟨L, hO, L1, L2, rfl, h1, h2⟩ := x
  have hO2 : Own H L2 := ⟨by
    have := hO.1
    rw [List.map_append] at this
    exact (List.nodup_append.mp this).2.1, fun c hc => hO.2 c (List.mem_append_right _ hc)⟩
  -- the rest holds in the heap of L2 alone
  let H2 : Hp := fun a => ((L2.find? fun c => decide (c.1 = a)).map (·.2))
  have hH2 : Own H2 L2 := ⟨hO2.1, fun c hc => by
    show ((L2.find? fun d => decide (d.1 = c.1)).map (·.2)) = some c.2
    cases e : L2.find? (fun d => decide (d.1 = c.1)) with
    | none =>
      have := List.find?_eq_none.mp e c hc
      simp at this
    | some d =>
      have h1 := List.find?_some e
      have h2 := List.mem_of_find?_eq_some e
      have h3 : d.1 = c.1 := by simpa using h1
      have e1 := hO2.2 d h2
      have e2 := hO2.2 c hc
      rw [h3, e2] at e1
      have : d.2 = c.2 := (Option.some.inj e1).symm
      simp [this]⟩
  have x2 : Sat H2 ps := by unfold Sat; exact ⟨L2, hH2, h2⟩
  have x3 := h H2 x2
  unfold Sat at x3
  obtain ⟨L3, hO3, h3⟩ := x3
  have sub : ∀ c ∈ L3, c ∈ L2 := fun c hc => by
    have e := hO3.2 c hc
    have e' : ((L2.find? fun d => decide (d.1 = c.1)).map (·.2)) = some c.2 := e
    cases e2 : L2.find? (fun d => decide (d.1 = c.1)) with
    | none => rw [e2] at e'; cases e'
    | some d =>
      rw [e2] at e'
      have m := List.mem_of_find?_eq_some e2
      have k1 : d.1 = c.1 := by simpa using List.find?_some e2
      have k2 : d.2 = c.2 := by simpa using e'
      have : d = c := Prod.ext k1 k2
      rw [← this]; exact m
  refine ⟨L1 ++ L3, ⟨?_, fun c hc => ?_⟩, L1, L3, rfl, h1, h3⟩
  · have n := hO.1
    rw [List.map_append] at n ⊢
    obtain ⟨n1, _, n3⟩ := List.nodup_append.mp n
    refine List.nodup_append.mpr ⟨n1, hO3.1, fun a ha b hb => ?_⟩
    obtain ⟨c, hc, e⟩ := List.mem_map.mp hb
    exact n3 a ha b (List.mem_map.mpr ⟨c, sub c hc, e⟩)
  · rcases List.mem_append.mp hc with m | m
    · exact hO.2 c (List.mem_append_left _ m)
    · exact hO2.2 c (sub c m)
theorem Ent.app {cs ps ps' : List HP} (h : Ent ps ps') : Ent (cs ++ ps) (cs ++ ps') := by
  induction cs with
  | nil => exact h
  | cons c cs ih => exact Ent.cons ih
theorem Ent.left {cs ds R : List HP} (h : Ent cs ds) : Ent (cs ++ R) (ds ++ R) :=
  (Ent.perm List.perm_append_comm).trans ((Ent.app h).trans (Ent.perm List.perm_append_comm))
theorem Ent.pur {φ : Prop} {ps : List HP} (h : φ) : Ent ps (Sp.pur φ :: ps) := fun _ x => Sat.pur.mpr ⟨h, x⟩
theorem Ent.ex {α : Type} {f : α → HP} {ps : List HP} (x : α) : Ent (f x :: ps) (exh f :: ps) := fun _ h => Sat.ex.mpr ⟨x, h⟩
theorem Ent.grp {qs ps : List HP} : Ent (qs ++ ps) (grp qs :: ps) := fun _ h => Sat.grp.mpr h
end Sp

set_option Elab.async false
set_option linter.all false
set_option maxRecDepth 100000
set_option maxHeartbeats 4000000
/-! Readings over symbolic heaps. -/
namespace Sp
open PySem L2

/-! ### the judgements -/
def We (te : TE) (σ : L2.St) (ps : List HP) (Φ : V → List HP → Prop) : Prop := ∀ (H : Hp) (Q : VK), Sat H ps → (∀ v ps' H', Φ v ps' → Sat H' ps' → Q v H') → te σ H Q
def Wt (t : TT) (σ : L2.St) (ps : List HP) (Φ : Bool → List HP → Prop) : Prop := ∀ (H : Hp) (Q : Bool → Hp → Prop), Sat H ps → (∀ v ps' H', Φ v ps' → Sat H' ps' → Q v H') → t σ H Q
def Wa (t : TA) (σ : L2.St) (ps : List HP) (Φ : List V → List HP → Prop) : Prop := ∀ (H : Hp) (Q : List V → Hp → Prop), Sat H ps → (∀ v ps' H', Φ v ps' → Sat H' ps' → Q v H') → t σ H Q
def Wo (t : TO) (σ : L2.St) (ps : List HP) (Φ : Option Int → List HP → Prop) : Prop := ∀ (H : Hp) (Q : Option Int → Hp → Prop), Sat H ps → (∀ v ps' H', Φ v ps' → Sat H' ps' → Q v H') → t σ H Q
def W1 (r : V → Hp → VK → Prop) (x : V) (ps : List HP) (Φ : V → List HP → Prop) : Prop := ∀ (H : Hp) (Q : VK), Sat H ps → (∀ v ps' H', Φ v ps' → Sat H' ps' → Q v H') → r x H Q
def W2 (r : R2) (x y : V) (ps : List HP) (Φ : V → List HP → Prop) : Prop := ∀ (H : Hp) (Q : VK), Sat H ps → (∀ v ps' H', Φ v ps' → Sat H' ps' → Q v H') → r x y H Q
def Wc (r : List V → Hp → VK → Prop) (vs : List V) (ps : List HP) (Φ : V → List HP → Prop) : Prop := ∀ (H : Hp) (Q : VK), Sat H ps → (∀ v ps' H', Φ v ps' → Sat H' ps' → Q v H') → r vs H Q
def Wm (r : V → List V → Hp → VK → Prop) (x : V) (vs : List V) (ps : List HP) (Φ : V → List HP → Prop) : Prop := ∀ (H : Hp) (Q : VK), Sat H ps → (∀ v ps' H', Φ v ps' → Sat H' ps' → Q v H') → r x vs H Q
def Wsl (r : V → Option Int → Option Int → Hp → VK → Prop) (x : V) (lo hi : Option Int) (ps : List HP) (Φ : V → List HP → Prop) : Prop := ∀ (H : Hp) (Q : VK), Sat H ps → (∀ v ps' H', Φ v ps' → Sat H' ps' → Q v H') → r x lo hi H Q
def Wg (g : TG) (v : V) (σ : L2.St) (ps : List HP) (Φ : L2.St → List HP → Prop) : Prop := ∀ (H : Hp) (Q : L2.St → Hp → Prop), Sat H ps → (∀ σ' ps' H', Φ σ' ps' → Sat H' ps' → Q σ' H') → g v σ H Q
def Wgs (g : TGs) (v : List V) (σ : L2.St) (ps : List HP) (Φ : L2.St → List HP → Prop) : Prop := ∀ (H : Hp) (Q : L2.St → Hp → Prop), Sat H ps → (∀ σ' ps' H', Φ σ' ps' → Sat H' ps' → Q σ' H') → g v σ H Q
def Wst (t : TSet) (o i v : V) (ps : List HP) (Φ : List HP → Prop) : Prop := ∀ (H : Hp) (Q : Hp → Prop), Sat H ps → (∀ ps' H', Φ ps' → Sat H' ps' → Q H') → t o i v H Q
abbrev PN := L2.St → List HP → Prop
structure Le (nx : PN) (rt : V → List HP → Prop) (bk ct : PN) (D' : Ends) : Prop where
  nx : ∀ σ ps H, nx σ ps → Sat H ps → D'.nx σ H
  rt : ∀ v ps H, rt v ps → Sat H ps → D'.rt v H
  bk : ∀ σ ps H, bk σ ps → Sat H ps → D'.bk σ H
  ct : ∀ σ ps H, ct σ ps → Sat H ps → D'.ct σ H
def Ws (t : TS) (nx : PN) (rt : V → List HP → Prop) (bk ct : PN) (σ : L2.St) (ps : List HP) : Prop := ∀ (H : Hp) (D' : Ends), Sat H ps → Le nx rt bk ct D' → t D' σ H

/-! ### what follows, ahead of a goal -/
section
variable {te : TE} {tt : TT} {ta : TA} {ts : TS} {σ : L2.St} {ps ps' qs R : List HP} {nx : PN} {rt : V → List HP → Prop} {bk ct : PN}
theorem We.ent {Φ} (e : Ent ps ps') (h : We te σ ps' Φ) : We te σ ps Φ := fun H Q s k => h H Q (e H s) k
theorem Wt.ent {Φ} (e : Ent ps ps') (h : Wt tt σ ps' Φ) : Wt tt σ ps Φ := fun H Q s k => h H Q (e H s) k
theorem Ws.ent (e : Ent ps ps') (h : Ws ts nx rt bk ct σ ps') : Ws ts nx rt bk ct σ ps := fun H Q s k => h H Q (e H s) k
theorem W2.ent {r x y Φ} (e : Ent ps ps') (h : W2 r x y ps' Φ) : W2 r x y ps Φ := fun H Q s k => h H Q (e H s) k
theorem Ws.ex {α : Type} {f : α → HP} (h : ∀ x, Ws ts nx rt bk ct σ (f x :: ps)) : Ws ts nx rt bk ct σ (exh f :: ps) := fun H Q s k => let ⟨x, s'⟩ := Sat.ex.mp s; h x H Q s' k
theorem Ws.pur {φ : Prop} (h : φ → Ws ts nx rt bk ct σ ps) : Ws ts nx rt bk ct σ (Sp.pur φ :: ps) := fun H Q s k => let ⟨x, s'⟩ := Sat.pur.mp s; h x H Q s' k
theorem Ws.grp (h : Ws ts nx rt bk ct σ (qs ++ ps)) : Ws ts nx rt bk ct σ (Sp.grp qs :: ps) := fun H Q s k => h H Q (Sat.grp.mp s) k
theorem We.ex {Φ} {α : Type} {f : α → HP} (h : ∀ x, We te σ (f x :: ps) Φ) : We te σ (exh f :: ps) Φ := fun H Q s k => let ⟨x, s'⟩ := Sat.ex.mp s; h x H Q s' k
theorem We.pur {Φ} {φ : Prop} (h : φ → We te σ ps Φ) : We te σ (Sp.pur φ :: ps) Φ := fun H Q s k => let ⟨x, s'⟩ := Sat.pur.mp s; h x H Q s' k
theorem We.grp {Φ} (h : We te σ (qs ++ ps) Φ) : We te σ (Sp.grp qs :: ps) Φ := fun H Q s k => h H Q (Sat.grp.mp s) k
/-- a fact read off the heap -/
theorem Ws.fact {φ : Prop} (f : ∀ H, Sat H ps → φ) (h : φ → Ws ts nx rt bk ct σ ps) : Ws ts nx rt bk ct σ ps := fun H Q s k => h (f H s) H Q s k
theorem We.fact {Φ} {φ : Prop} (f : ∀ H, Sat H ps → φ) (h : φ → We te σ ps Φ) : We te σ ps Φ := fun H Q s k => h (f H s) H Q s k
theorem Ws.open {α : Type} {f : α → List HP} {c : HP} (e : ∀ H R, Sat H (c :: R) → ∃ x, Sat H (f x ++ R)) (h : ∀ x, Ws ts nx rt bk ct σ (f x ++ ps)) : Ws ts nx rt bk ct σ (c :: ps) := fun H Q s k => let ⟨x, s'⟩ := e H _ s; h x H Q s' k
theorem We.mono {Φ Φ' : V → List HP → Prop} (h : We te σ ps Φ) (k : ∀ v ps, Φ v ps → Φ' v ps) : We te σ ps Φ' := fun H Q s k' => h H Q s fun v ps' H' f s' => k' v ps' H' (k v ps' f) s'
theorem Ws.mono {nx2 : PN} {rt2 : V → List HP → Prop} {bk2 ct2 : PN} (h : Ws ts nx rt bk ct σ ps) (k1 : ∀ σ ps, nx σ ps → nx2 σ ps) (k2 : ∀ v ps, rt v ps → rt2 v ps) (k3 : ∀ σ ps, bk σ ps → bk2 σ ps) (k4 : ∀ σ ps, ct σ ps → ct2 σ ps) : Ws ts nx2 rt2 bk2 ct2 σ ps :=
  fun H D' s l => h H D' s ⟨fun σ ps H x => l.nx σ ps H (k1 σ ps x), fun v ps H x => l.rt v ps H (k2 v ps x), fun σ ps H x => l.bk σ ps H (k3 σ ps x), fun σ ps H x => l.ct σ ps H (k4 σ ps x)⟩
end

/-! ### classes -/
structure CI (K : PySem.W.Frag) (names : List Str) where
  C : Addr
  cls : Cls K C
  no : ∀ f ∈ names, NoAttr K C f
  nd : names.Nodup
  few : names.length < 1000
/-- an instance of the class, its attributes in the order in which they were stored -/
@[irreducible] def obj {K : PySem.W.Frag} {names : List Str} (I : CI K names) (a : Addr) (fs : List (Str × V)) : HP := exh fun dx => pt a (.ins I.C dx fs)
theorem lookup_of : ∀ {fs : List (Str × V)} {f : Str} {v : V}, (fs.map (·.1)).Nodup → (f, v) ∈ fs → fs.lookup f = some v
  | [], _, _, _, m => nomatch m
  | (g, x) :: r, f, v, nd, m => by
    have nd' : (g :: r.map (·.1)).Nodup := nd
    obtain ⟨n1, n2⟩ := List.nodup_cons.mp nd'
    rcases List.mem_cons.mp m with e | m2
    · cases e
      rw [List.lookup_cons]
      simp
    · have hne : (f == g) = false := by
        rw [beq_eq_false_iff_ne]
        rintro rfl
        exact n1 (List.mem_map.mpr ⟨(f, v), m2, rfl⟩)
      rw [List.lookup_cons, hne]
      exact lookup_of n2 m2
theorem lookup_not : ∀ {fs : List (Str × V)} {f : Str}, f ∉ fs.map (·.1) → fs.lookup f = none
  | [], _, _ => rfl
  | (g, x) :: r, f, n => by
    have hne : (f == g) = false := by
      rw [beq_eq_false_iff_ne]
      rintro rfl
      exact n (List.mem_map.mpr ⟨(f, x), List.mem_cons_self .., rfl⟩)
    rw [List.lookup_cons, hne]
    exact lookup_not fun m => n (List.mem_cons_of_mem _ m)
/-- an attribute stored: in its place, or at the end -/
inductive FPut (f : Str) (y : V) : List (Str × V) → List (Str × V) → Prop
  | hd {x : V} {r : List (Str × V)} : FPut f y ((f, x) :: r) ((f, y) :: r)
  | tl {g : Str} {x : V} {r r' : List (Str × V)} (h : FPut f y r r') : FPut f y ((g, x) :: r) ((g, x) :: r')
  | new : FPut f y [] [(f, y)]
theorem FPut.eq {f : Str} {y : V} {fs fs' : List (Str × V)} (h : FPut f y fs fs') (nd : (fs'.map (·.1)).Nodup) : putF f y fs = fs' := by
  induction h with
  | hd => unfold putF; rw [if_pos rfl]
  | @tl g x r r' h ih =>
    have nd' : (g :: r'.map (·.1)).Nodup := nd
    obtain ⟨n1, n2⟩ := List.nodup_cons.mp nd'
    have hm : f ∈ r'.map (·.1) := by
      clear ih n1 n2 nd nd'
      induction h with
      | hd => exact List.mem_cons_self ..
      | tl _ ih => exact List.mem_cons_of_mem _ ih
      | new => exact List.mem_cons_self ..
    unfold putF
    rw [if_neg (by rintro rfl; exact n1 hm), ih n2]
  | new => rfl
theorem nodup_pre {a b c : List Str} (e : a ++ b = c) (h : c.Nodup) : a.Nodup := by
  subst e; exact (List.nodup_append.mp h).1

section
variable {K : PySem.W.Frag} {names : List Str} {I : CI K names} {te ta tb tv : TE} {t u : TT} {tr : TA} {σ : L2.St} {ps ps' ps1 R : List HP} {Φ : V → List HP → Prop} {x y v : V} {a : Addr} {fs fs' : List (Str × V)} {f : Str} {nx : PN} {rt : V → List HP → Prop} {bk ct : PN} {ts tz tu : TS}
theorem Sat.obj {H : Hp} (s : Sat H ps) (m : Sp.obj I a fs ∈ ps) : ∃ dx, H a = some (.ins I.C dx fs) := by
  unfold Sat at s
  obtain ⟨L, hO, hL⟩ := s
  obtain ⟨L1, h1, k⟩ := stars_mem m hL
  unfold Sp.obj exh pt at h1
  obtain ⟨dx, rfl⟩ := h1
  exact ⟨dx, hO.2 (a, _) (k _ (List.mem_cons_self ..))⟩
theorem Sat.objRep {H : Hp} (s : Sat H ps) (r : Rep (Sp.obj I a fs) (Sp.obj I a fs') ps ps') : ∃ dx, H a = some (.ins I.C dx fs) ∧ Sat (upd H a (.ins I.C dx fs')) ps' := by
  obtain ⟨R, p, q⟩ := r.two
  have s1 := s.perm p
  unfold Sp.obj at s1
  obtain ⟨dx, s2⟩ := Sat.ex.mp s1
  refine ⟨dx, s2.get (List.mem_cons_self ..), Sat.perm q.symm ?_⟩
  unfold Sp.obj
  exact Sat.ex.mpr ⟨dx, s2.write⟩

/-! ### names, constants, attributes -/
theorem we_var {i : Nat} (h : σ[i]? = some (some v)) (k : Φ v ps) : We (tVar i) σ ps Φ := fun H Q s q => ⟨v, h, q _ _ _ k s⟩
theorem we_c (k : Φ v ps) : We (tC v) σ ps Φ := fun H Q s q => q _ _ _ k s
/-- attribute f of the object at a reads v -/
def RF (K : PySem.W.Frag) (H : Hp) (a : Addr) (f : Str) (v : V) : Prop := ∃ C dx fs, H a = some (.ins C dx fs) ∧ Cls K C ∧ NoAttr K C f ∧ fs.lookup f = some v
/-- .. as the parts say it, opened or not -/
def FldG (K : PySem.W.Frag) (x : V) (f : Str) (ps : List HP) (Φ : V → List HP → Prop) : Prop := ∀ H, Sat H ps → ∃ ps2 a v, Sat H ps2 ∧ x = .ref a ∧ RF K H a f v ∧ Φ v ps2
/-- read off, the parts as they stand -/
def RdF (K : PySem.W.Frag) (ps : List HP) (a : Addr) (f : Str) (v : V) : Prop := ∀ H, Sat H ps → RF K H a f v
theorem fldG_ro (h : RdF K ps a f v) (k : Φ v ps) : FldG K (.ref a) f ps Φ := fun H s => ⟨ps, a, v, s, rfl, h H s, k⟩
theorem FldG.ent (e : Ent ps ps') (h : FldG K x f ps' Φ) : FldG K x f ps Φ := fun H s => h H (e H s)
theorem FldG.open {α : Type} {g : α → List HP} (e : ∀ H, Sat H ps → ∃ z, Sat H (g z)) (h : ∀ z, FldG K x f (g z) Φ) : FldG K x f ps Φ := fun H s => let ⟨z, s'⟩ := e H s; h z H s'
theorem Sat.rf {r : List Str} {H : Hp} (s : Sat H ps) (m : Sp.obj I a fs ∈ ps) (p : fs.map (·.1) ++ r = names) (q : (f, v) ∈ fs) : RF K H a f v := by
  obtain ⟨dx, e⟩ := s.obj m
  exact ⟨I.C, dx, fs, e, I.cls, I.no f (by rw [← p]; exact List.mem_append_left _ (List.mem_map.mpr ⟨_, q, rfl⟩)), lookup_of (nodup_pre p I.nd) q⟩
theorem fldG {r : List Str} (m : obj I a fs ∈ ps) (p : fs.map (·.1) ++ r = names) (q : (f, v) ∈ fs) (k : Φ v ps) : FldG K (.ref a) f ps Φ := fun H s => ⟨ps, a, v, s, rfl, s.rf m p q, k⟩
theorem we_fld (h : We ta σ ps fun x ps1 => FldG K x f ps1 Φ) : We (tFld K ta f) σ ps Φ := by
  intro H Q s q
  refine h H _ s fun x ps1 H1 g s1 => ?_
  obtain ⟨ps2, a, v, s2, rfl, ⟨C, dx, fs, e1, e2, e3, e4⟩, k⟩ := g H1 s1
  exact ⟨a, C, dx, fs, v, rfl, e1, e2, e3, e4, q _ _ _ k s2⟩
def FldS0 (K : PySem.W.Frag) (x : V) (f : Str) (y : V) (ps : List HP) (k : List HP → Prop) : Prop := ∃ (names : List Str) (I : CI K names) (a : Addr) (fs fs' : List (Str × V)) (r : List Str) (ps' : List HP), x = .ref a ∧ FPut f y fs fs' ∧ fs'.map (·.1) ++ r = names ∧ Rep (obj I a fs) (obj I a fs') ps ps' ∧ k ps'
def FldS (K : PySem.W.Frag) (x : V) (f : Str) (y : V) (ps : List HP) (k : List HP → Prop) : Prop := ∀ H, Sat H ps → ∃ ps2, Sat H ps2 ∧ FldS0 K x f y ps2 k
theorem FldS.ent {k : List HP → Prop} (e : Ent ps ps') (h : FldS K x f y ps' k) : FldS K x f y ps k := fun H s => h H (e H s)
theorem FldS.open {α : Type} {g : α → List HP} {k : List HP → Prop} (e : ∀ H, Sat H ps → ∃ z, Sat H (g z)) (h : ∀ z, FldS K x f y (g z) k) : FldS K x f y ps k := fun H s => let ⟨z, s'⟩ := e H s; h z H s'
theorem fldS {r : List Str} {k : List HP → Prop} {fs' : List (Str × V)} (m : obj I a fs ∈ ps) (w : FPut f y fs fs') (p : fs'.map (·.1) ++ r = names) (h : Rep (obj I a fs) (obj I a fs') ps ps') (q : k ps') : FldS K (.ref a) f y ps k := fun H s => ⟨ps, s, _, I, a, fs, fs', r, ps', rfl, w, p, h, q⟩
theorem FPut.len {f : Str} {y : V} {fs fs' : List (Str × V)} (h : FPut f y fs fs') : fs.length ≤ fs'.length := by
  induction h with
  | hd => simp
  | tl _ ih => simpa using ih
  | new => simp
theorem FPut.mem {f : Str} {y : V} {fs fs' : List (Str × V)} (h : FPut f y fs fs') : f ∈ fs'.map (·.1) := by
  induction h with
  | hd => exact List.mem_cons_self ..
  | tl _ ih => exact List.mem_cons_of_mem _ ih
  | new => exact List.mem_cons_self ..
theorem ws_fld (h : We tv σ ps fun y ps1 => We ta σ ps1 fun x ps2 => FldS K x f y ps2 (nx σ)) : Ws (sFld K ta tv f) nx rt bk ct σ ps := by
  intro H D' s l
  refine h H _ s fun y ps1 H1 h1 s1 => ?_
  refine h1 H1 _ s1 fun x ps2 H2 g s2 => ?_
  obtain ⟨ps2, s2, names, I, a, fs, fs', r, ps', rfl, w, p, rep, k⟩ := g H2 s2
  obtain ⟨dx, e, s3⟩ := s2.objRep rep
  have lt : fs.length < 1000 := by
    have h1 := w.len
    have h2 : fs'.length ≤ names.length := by rw [← p]; simp
    exact Nat.lt_of_le_of_lt (Nat.le_trans h1 h2) I.few
  refine ⟨a, I.C, dx, fs, rfl, e, I.cls, I.no f (by rw [← p]; exact List.mem_append_left _ w.mem), lt, ?_⟩
  rw [w.eq (nodup_pre p I.nd)]
  exact l.nx _ _ _ k s3

/-! ### operations -/
theorem we_op {r : R2} (h : We ta σ ps fun x ps1 => We tb σ ps1 fun y ps2 => W2 r x y ps2 Φ) : We (tOp r ta tb) σ ps Φ := fun H Q s q =>
  h H _ s fun x ps1 H1 h1 s1 => h1 H1 _ s1 fun y ps2 H2 h2 s2 => h2 H2 Q s2 q
theorem we_un {r : V → Hp → VK → Prop} (h : We ta σ ps fun x ps1 => W1 r x ps1 Φ) : We (tUn r ta) σ ps Φ := fun H Q s q =>
  h H _ s fun x ps1 H1 h1 s1 => h1 H1 Q s1 q
theorem w2_I0 {g : Int → Int → V} {i j : Int} (k : Φ (g i j) ps) : W2 (rI0 g) (.int i) (.int j) ps Φ := fun H Q s q => ⟨i, j, rfl, rfl, q _ _ _ k s⟩
theorem w2_I {C : Int → Int → Prop} {g : Int → Int → V} {i j : Int} (c : C i j) (k : Φ (g i j) ps) : W2 (rI C g) (.int i) (.int j) ps Φ := fun H Q s q => ⟨i, j, rfl, rfl, c, q _ _ _ k s⟩
theorem w1_U {g : Int → V} {i : Int} (k : Φ (g i) ps) : W1 (rU g) (.int i) ps Φ := fun H Q s q => ⟨i, rfl, q _ _ _ k s⟩
theorem w2_eq (c : scal x y = true) (k : Φ (.bl (decide (x = y))) ps) : W2 rEq x y ps Φ := fun H Q s q => ⟨c, q _ _ _ k s⟩
theorem w2_ne (c : scal x y = true) (k : Φ (.bl (!decide (x = y))) ps) : W2 rNe x y ps Φ := fun H Q s q => ⟨c, q _ _ _ k s⟩
theorem we_eqN (h : We ta σ ps fun x ps1 => Φ (.bl (decide (x = .non))) ps1) : We (tIsN ta) σ ps Φ := fun H Q s q => h H _ s fun x ps1 H1 k s1 => q _ _ _ k s1
theorem we_neN (h : We ta σ ps fun x ps1 => Φ (.bl (!decide (x = .non))) ps1) : We (tNotN ta) σ ps Φ := fun H Q s q => h H _ s fun x ps1 H1 k s1 => q _ _ _ k s1

/-! ### tests -/
def BoolG (x : V) (ps : List HP) (Φ : Bool → List HP → Prop) : Prop := ∃ c, x = .bl c ∧ Φ c ps
theorem boolG {c : Bool} {Φ : Bool → List HP → Prop} (k : Φ c ps) : BoolG (.bl c) ps Φ := ⟨c, rfl, k⟩
theorem wt_test {Φ : Bool → List HP → Prop} (h : We te σ ps fun x ps1 => BoolG x ps1 Φ) : Wt (tTest te) σ ps Φ := fun H Q s q =>
  h H _ s fun x ps1 H1 ⟨c, e, k⟩ s1 => ⟨c, e, q _ _ _ k s1⟩
theorem wt_B {Φ : Bool → List HP → Prop} (h : We te σ ps fun x ps1 => BoolG x ps1 Φ) : Wt (tB te) σ ps Φ := fun H Q s q =>
  h H _ s fun x ps1 H1 ⟨c, e, k⟩ s1 => ⟨c, e, q _ _ _ k s1⟩
theorem wt_not {Φ : Bool → List HP → Prop} (h : Wt t σ ps fun c ps1 => Φ (!c) ps1) : Wt (tNot t) σ ps Φ := fun H Q s q => h H _ s fun c ps1 H1 k s1 => q _ _ _ k s1
theorem wt_and {Φ : Bool → List HP → Prop} (h : Wt t σ ps fun c ps1 => if c = true then Wt u σ ps1 Φ else Φ false ps1) : Wt (tAnd t u) σ ps Φ := fun H Q s q =>
  h H _ s fun c ps1 H1 k s1 => by
    cases c with
    | true => rw [if_pos rfl] at k ⊢; exact k H1 Q s1 q
    | false => rw [if_neg Bool.false_ne_true] at k ⊢; exact q _ _ _ k s1
theorem wt_or {Φ : Bool → List HP → Prop} (h : Wt t σ ps fun c ps1 => if c = true then Φ true ps1 else Wt u σ ps1 Φ) : Wt (tOr t u) σ ps Φ := fun H Q s q =>
  h H _ s fun c ps1 H1 k s1 => by
    cases c with
    | true => rw [if_pos rfl] at k ⊢; exact q _ _ _ k s1
    | false => rw [if_neg Bool.false_ne_true] at k ⊢; exact k H1 Q s1 q
def ChainG (r' : R2) (y : V) (σ : L2.St) (tc : TE) (z : V) (ps : List HP) (Φ : V → List HP → Prop) : Prop := ∃ k, z = .bl k ∧ if k = true then We tc σ ps fun w ps1 => W2 r' y w ps1 Φ else Φ (.bl false) ps
theorem chainG {r' : R2} {tc : TE} {c : Bool} (k : if c = true then We tc σ ps fun w ps1 => W2 r' y w ps1 Φ else Φ (.bl false) ps) : ChainG r' y σ tc (.bl c) ps Φ := ⟨c, rfl, k⟩
theorem we_chain {r r' : R2} {tc : TE} (h : We ta σ ps fun x ps1 => We tb σ ps1 fun y ps2 => W2 r x y ps2 fun z ps3 => ChainG r' y σ tc z ps3 Φ) : We (tChain r r' ta tb tc) σ ps Φ := fun H Q s q =>
  h H _ s fun x ps1 H1 h1 s1 => h1 H1 _ s1 fun y ps2 H2 h2 s2 => h2 H2 _ s2 fun z ps3 H3 ⟨k, e, g⟩ s3 => ⟨k, e, by
    cases k with
    | true => rw [if_pos rfl] at g ⊢; exact g H3 _ s3 fun w ps4 H4 h4 s4 => h4 H4 Q s4 q
    | false => rw [if_neg Bool.false_ne_true] at g ⊢; exact q _ _ _ g s3⟩
def AndG (x : V) (tb : TE) (σ : L2.St) (ps : List HP) (Φ : V → List HP → Prop) : Prop := ∃ c, x = .bl c ∧ if c = true then We tb σ ps Φ else Φ (.bl false) ps
def OrG (x : V) (tb : TE) (σ : L2.St) (ps : List HP) (Φ : V → List HP → Prop) : Prop := ∃ c, x = .bl c ∧ if c = true then Φ (.bl true) ps else We tb σ ps Φ
theorem andG {c : Bool} (k : if c = true then We tb σ ps Φ else Φ (.bl false) ps) : AndG (.bl c) tb σ ps Φ := ⟨c, rfl, k⟩
theorem orG {c : Bool} (k : if c = true then Φ (.bl true) ps else We tb σ ps Φ) : OrG (.bl c) tb σ ps Φ := ⟨c, rfl, k⟩
theorem we_andV (h : We ta σ ps fun x ps1 => AndG x tb σ ps1 Φ) : We (tAndV ta tb) σ ps Φ := fun H Q s q =>
  h H _ s fun x ps1 H1 ⟨c, e, k⟩ s1 => ⟨c, e, by
    cases c with
    | true => rw [if_pos rfl] at k ⊢; exact k H1 Q s1 q
    | false => rw [if_neg Bool.false_ne_true] at k ⊢; exact q _ _ _ k s1⟩
theorem we_orV (h : We ta σ ps fun x ps1 => OrG x tb σ ps1 Φ) : We (tOrV ta tb) σ ps Φ := fun H Q s q =>
  h H _ s fun x ps1 H1 ⟨c, e, k⟩ s1 => ⟨c, e, by
    cases c with
    | true => rw [if_pos rfl] at k ⊢; exact q _ _ _ k s1
    | false => rw [if_neg Bool.false_ne_true] at k ⊢; exact k H1 Q s1 q⟩
theorem we_notV (h : We ta σ ps fun x ps1 => BoolG x ps1 fun c ps2 => Φ (.bl (!c)) ps2) : We (tNotV ta) σ ps Φ := fun H Q s q =>
  h H _ s fun x ps1 H1 ⟨c, e, k⟩ s1 => ⟨c, e, q _ _ _ k s1⟩

/-! ### statements -/
theorem ws_next (k : nx σ ps) : Ws tNext nx rt bk ct σ ps := fun H D' s l => l.nx _ _ _ k s
theorem ws_seq (h : Ws ts (fun σ' ps' => Ws tz nx rt bk ct σ' ps') rt bk ct σ ps) : Ws (tSeq ts tz) nx rt bk ct σ ps := fun H D' s l =>
  h H _ s ⟨fun σ' ps' H' k s' => k H' D' s' l, l.rt, l.bk, l.ct⟩
theorem ws_break (k : bk σ ps) : Ws tBreak nx rt bk ct σ ps := fun H D' s l => l.bk _ _ _ k s
theorem ws_cont (k : ct σ ps) : Ws tCont nx rt bk ct σ ps := fun H D' s l => l.ct _ _ _ k s
theorem ws_drop (h : We te σ ps fun _ ps1 => nx σ ps1) : Ws (tDrop te) nx rt bk ct σ ps := fun H D' s l => h H _ s fun v ps1 H1 k s1 => l.nx _ _ _ k s1
theorem ws_ret (h : We te σ ps rt) : Ws (tRet te) nx rt bk ct σ ps := fun H D' s l => h H _ s fun v ps1 H1 k s1 => l.rt _ _ _ k s1
theorem ws_retN (k : rt .non ps) : Ws tRetN nx rt bk ct σ ps := fun H D' s l => l.rt _ _ _ k s
theorem ws_if (h : Wt t σ ps fun c ps1 => if c = true then Ws ts nx rt bk ct σ ps1 else Ws tu nx rt bk ct σ ps1) : Ws (tIfS t ts tu) nx rt bk ct σ ps := fun H D' s l =>
  h H _ s fun c ps1 H1 k s1 => by
    cases c with
    | true => rw [if_pos rfl] at k ⊢; exact k H1 D' s1 l
    | false => rw [if_neg Bool.false_ne_true] at k ⊢; exact k H1 D' s1 l
theorem ws_asg {g : TG} (h : We te σ ps fun x ps1 => Wg g x σ ps1 nx) : Ws (tAsg te g) nx rt bk ct σ ps := fun H D' s l =>
  h H _ s fun x ps1 H1 k s1 => k H1 _ s1 fun σ' ps' H' k' s' => l.nx _ _ _ k' s'
theorem wg_name {i : Nat} {Φ : L2.St → List HP → Prop} (k : Φ (σ.set i (some v)) ps) : Wg (gName i) v σ ps Φ := fun H Q s q => q _ _ _ k s
theorem wg_sub {to ti : TE} {w : TSet} {Φ : L2.St → List HP → Prop} (h : We to σ ps fun o ps1 => We ti σ ps1 fun i ps2 => Wst w o i v ps2 fun ps3 => Φ σ ps3) : Wg (gSub to ti w) v σ ps Φ := fun H Q s q =>
  h H _ s fun o ps1 H1 h1 s1 => h1 H1 _ s1 fun i ps2 H2 h2 s2 => h2 H2 _ s2 fun ps3 H3 k s3 => q _ _ _ k s3
theorem wgs_nil {Φ : L2.St → List HP → Prop} (k : Φ σ ps) : Wgs gNil [] σ ps Φ := fun H Q s q => ⟨rfl, q _ _ _ k s⟩
theorem wgs_cons {g : TG} {gs : TGs} {vs : List V} {Φ : L2.St → List HP → Prop} (h : Wg g v σ ps fun σ1 ps1 => Wgs gs vs σ1 ps1 Φ) : Wgs (gCons g gs) (v :: vs) σ ps Φ := fun H Q s q =>
  ⟨v, vs, rfl, h H _ s fun σ1 ps1 H1 h1 s1 => h1 H1 Q s1 q⟩

/-! ### argument lists, displays -/
theorem wa_nil {Φ : List V → List HP → Prop} (k : Φ [] ps) : Wa tNil σ ps Φ := fun H Q s q => q _ _ _ k s
theorem wa_cons {Φ : List V → List HP → Prop} (h : We ta σ ps fun x ps1 => Wa tr σ ps1 fun xs ps2 => Φ (x :: xs) ps2) : Wa (tCons ta tr) σ ps Φ := fun H Q s q =>
  h H _ s fun x ps1 H1 h1 s1 => h1 H1 _ s1 fun xs ps2 H2 k s2 => q _ _ _ k s2
/-- room for a new object -/
def NewG (n : Nat) (k : Addr → Prop) : Prop := n ≤ sizeLine ∧ ∀ p, k p
theorem newG {n : Nat} {k : Addr → Prop} (l : n ≤ sizeLine) (h : ∀ p, k p) : NewG n k := ⟨l, h⟩
theorem we_tup (h : Wa tr σ ps fun xs ps1 => NewG xs.length fun p => Φ (.ref p) (pt p (.tup xs) :: ps1)) : We (tTup tr) σ ps Φ := fun H Q s q =>
  h H _ s fun xs ps1 H1 ⟨l, k⟩ s1 => ⟨l, fun p hp => q _ _ _ (k p) (s1.new hp)⟩
theorem we_lst (h : Wa tr σ ps fun xs ps1 => NewG xs.length fun p => Φ (.ref p) (pt p (.lst xs) :: ps1)) : We (tLst tr) σ ps Φ := fun H Q s q =>
  h H _ s fun xs ps1 H1 ⟨l, k⟩ s1 => ⟨l, fun p hp => q _ _ _ (k p) (s1.new hp)⟩
theorem we_dnewK (k : ∀ p, Φ (.ref p) (pt p (.dK []) :: ps)) : We tDNewK σ ps Φ := fun H Q s q p hp => q _ _ _ (k p) (s.new hp)
theorem we_dnewT (k : ∀ p, Φ (.ref p) (pt p (.dT []) :: ps)) : We tDNewT σ ps Φ := fun H Q s q p hp => q _ _ _ (k p) (s.new hp)

/-! ### calls of built-ins -/
theorem we_CB {r : List V → Hp → VK → Prop} (h : Wa tr σ ps fun vs ps1 => Wc r vs ps1 Φ) : We (tCB r tr) σ ps Φ := fun H Q s q =>
  h H _ s fun vs ps1 H1 h1 s1 => h1 H1 Q s1 q
end
end Sp

set_option Elab.async false
set_option linter.all false
set_option maxRecDepth 100000
set_option maxHeartbeats 4000000
/-! Readings over symbolic heaps: lists, tuples, dicts, loops, comprehensions, calls. -/
namespace Sp
open PySem PySem.Spec PyProof.Rows L2

/-! ### what is read -/
@[irreducible] def RdL (K : PySem.W.Frag) (ps : List HP) (a : Addr) (xs : List V) : Prop := ∀ H, Sat H ps → SqL K H a xs
@[irreducible] def RdT (K : PySem.W.Frag) (ps : List HP) (a : Addr) (xs : List V) : Prop := ∀ H, Sat H ps → SqT K H a xs
section
variable {K : PySem.W.Frag} {ps ps' qs R : List HP} {a b : Addr} {xs ys : List V}
theorem rdl_pt (m : pt a (.lst xs) ∈ ps) : RdL K ps a xs := by unfold RdL; exact fun H s => SqL.of (s.get m)
theorem rdt_pt (m : pt a (.tup xs) ∈ ps) : RdT K ps a xs := by unfold RdT; exact fun H s => SqT.of (s.get m)
theorem rdl_of (h : ∀ H, SqL K H a xs) : RdL K ps a xs := by unfold RdL; exact fun H _ => h H
theorem rdt_of (h : ∀ H, SqT K H a xs) : RdT K ps a xs := by unfold RdT; exact fun H _ => h H
theorem RdL.ent (e : Ent ps ps') (h : RdL K ps' a xs) : RdL K ps a xs := by unfold RdL at *; exact fun H s => h H (e H s)
theorem RdT.ent (e : Ent ps ps') (h : RdT K ps' a xs) : RdT K ps a xs := by unfold RdT at *; exact fun H s => h H (e H s)
theorem RdL.at' (h : RdL K ps a xs) {H : Hp} (s : Sat H ps) : SqL K H a xs := by unfold RdL at h; exact h H s
theorem RdT.at' (h : RdT K ps a xs) {H : Hp} (s : Sat H ps) : SqT K H a xs := by unfold RdT at h; exact h H s
/-- a part that lets a list (a tuple) be read -/
theorem rdl_in {c : HP} (m : c ∈ ps) (h : RdL K [c] a xs) : RdL K ps a xs := by
  unfold RdL at *
  intro H s
  obtain ⟨l1, l2, rfl⟩ := List.append_of_mem m
  have p : (l1 ++ c :: l2).Perm (c :: (l1 ++ l2)) := List.perm_middle
  exact h H ((Ent.cons (p := c) (fun H _ => Sat.nil)) H (s.perm p))
theorem rdt_in {c : HP} (m : c ∈ ps) (h : RdT K [c] a xs) : RdT K ps a xs := by
  unfold RdT at *
  intro H s
  obtain ⟨l1, l2, rfl⟩ := List.append_of_mem m
  have p : (l1 ++ c :: l2).Perm (c :: (l1 ++ l2)) := List.perm_middle
  exact h H ((Ent.cons (p := c) (fun H _ => Sat.nil)) H (s.perm p))
end

section
variable {K : PySem.W.Frag} {te ta tb tv td ti : TE} {t u : TT} {tr : TA} {σ : L2.St} {ps ps' ps1 R : List HP} {Φ : V → List HP → Prop} {x y v : V} {a b p : Addr} {xs ys : List V} {nx : PN} {rt : V → List HP → Prop} {bk ct : PN} {ts tz tu : TS} {i j : Int}

/-! ### named readings of built-ins -/
def rLen (K : PySem.W.Frag) : List V → Hp → VK → Prop := fun xs H Q => ∃ p ys, xs = [.ref p] ∧ (SqL K H p ys ∨ SqT K H p ys) ∧ Q (.int ys.length) H
theorem cr_len {X : Cx} : CallR X (.builtin "len") (rLen X.K) := call_len_seq
theorem wc_lenL (h : RdL K ps a xs) (k : Φ (.int xs.length) ps) : Wc (rLen K) [.ref a] ps Φ := fun H Q s q => ⟨a, xs, rfl, .inl (h.at' s), q _ _ _ k s⟩
theorem wc_lenT (h : RdT K ps a xs) (k : Φ (.int xs.length) ps) : Wc (rLen K) [.ref a] ps Φ := fun H Q s q => ⟨a, xs, rfl, .inr (h.at' s), q _ _ _ k s⟩
def rAbs : List V → Hp → VK → Prop := fun xs H Q => ∃ i, xs = [.int i] ∧ Q (.int (if i < 0 then -i else i)) H
theorem cr_abs {X : Cx} : CallR X (.builtin "abs") rAbs := call_abs
theorem wc_abs (k : Φ (.int (i.natAbs : Int)) ps) : Wc rAbs [.int i] ps Φ := fun H Q s q => ⟨i, rfl, by
  have e : (if i < 0 then -i else i) = (i.natAbs : Int) := by split <;> omega
  rw [e]; exact q _ _ _ k s⟩
def rMax2 : List V → Hp → VK → Prop := fun xs H Q => ∃ i j, xs = [.int i, .int j] ∧ Q (.int (if j > i then j else i)) H
def rMin2 : List V → Hp → VK → Prop := fun xs H Q => ∃ i j, xs = [.int i, .int j] ∧ Q (.int (if j < i then j else i)) H
theorem cr_max2 {X : Cx} (hc : X.calm = true) : CallR X (.builtin "max") rMax2 := call_max2 hc
theorem cr_min2 {X : Cx} (hc : X.calm = true) : CallR X (.builtin "min") rMin2 := call_min2 hc
theorem wc_max2 (k : Φ (.int (max i j)) ps) : Wc rMax2 [.int i, .int j] ps Φ := fun H Q s q => ⟨i, j, rfl, by
  have e : (if j > i then j else i) = max i j := by split <;> omega
  rw [e]; exact q _ _ _ k s⟩
theorem wc_min2 (k : Φ (.int (min i j)) ps) : Wc rMin2 [.int i, .int j] ps Φ := fun H Q s q => ⟨i, j, rfl, by
  have e : (if j < i then j else i) = min i j := by split <;> omega
  rw [e]; exact q _ _ _ k s⟩
def rInt1 : List V → Hp → VK → Prop := fun xs H Q => (∃ i, xs = [.int i] ∧ Q (.int i) H) ∨ ∃ k, xs = [.bl k] ∧ Q (.int (if k then 1 else 0)) H
theorem cr_int1 {X : Cx} : CallR X (.type "int") rInt1 := call_int1
theorem wc_int (k : Φ (.int i) ps) : Wc rInt1 [.int i] ps Φ := fun H Q s q => .inl ⟨i, rfl, q _ _ _ k s⟩
theorem wc_intB {c : Bool} (k : Φ (.int (if c then 1 else 0)) ps) : Wc rInt1 [.bl c] ps Φ := fun H Q s q => .inr ⟨c, rfl, q _ _ _ k s⟩
theorem wc_sum {ns : List Int} (h : RdL K ps a (ns.map V.int)) (k : Φ (.int ns.sum) ps) : Wc (rSum K) [.ref a] ps Φ := fun H Q s q => ⟨a, ns, rfl, h.at' s, q _ _ _ k s⟩
theorem wc_max {ns : List Int} (h : RdL K ps a (ns.map V.int)) (l : 0 < ns.length) (k : ∀ m, m ∈ ns → (∀ y, y ∈ ns → y ≤ m) → Φ (.int m) ps) : Wc (rMax K) [.ref a] ps Φ := fun H Q s q => ⟨a, ns, rfl, h.at' s, l, fun m h1 h2 => q _ _ _ (k m h1 h2) s⟩
theorem wc_min {ns : List Int} (h : RdL K ps a (ns.map V.int)) (l : 0 < ns.length) (k : ∀ m, m ∈ ns → (∀ y, y ∈ ns → m ≤ y) → Φ (.int m) ps) : Wc (rMin K) [.ref a] ps Φ := fun H Q s q => ⟨a, ns, rfl, h.at' s, l, fun m h1 h2 => q _ _ _ (k m h1 h2) s⟩
theorem wc_sorted {ns : List Int} (h : RdL K ps a (ns.map V.int)) (k : ∀ (ns' : List Int) (p : Addr), ns'.Perm ns → ns'.Pairwise (· ≤ ·) → Φ (.ref p) (pt p (.lst (ns'.map V.int)) :: ps)) : Wc (rSortedI K) [.ref a] ps Φ := fun H Q s q =>
  ⟨a, ns, rfl, h.at' s, fun ns' p h1 h2 hp => q _ _ _ (k ns' p h1 h2) (s.new hp)⟩
def rListOf (K : PySem.W.Frag) : List V → Hp → VK → Prop := fun xs H Q => ∃ p ys, xs = [.ref p] ∧ (SqL K H p ys ∨ SqT K H p ys) ∧ ∀ l, H l = none → Q (.ref l) (upd H l (.lst ys))
theorem cr_listOf {X : Cx} : CallR X (.type "list") (rListOf X.K) := call_list_of
theorem wc_listL (h : RdL K ps a xs) (k : ∀ p, Φ (.ref p) (pt p (.lst xs) :: ps)) : Wc (rListOf K) [.ref a] ps Φ := fun H Q s q => ⟨a, xs, rfl, .inl (h.at' s), fun l hl => q _ _ _ (k l) (s.new hl)⟩
def rTupOf (K : PySem.W.Frag) : List V → Hp → VK → Prop := fun xs H Q => ∃ p ys, xs = [.ref p] ∧ ((SqL K H p ys ∧ ∀ l, H l = none → Q (.ref l) (upd H l (.tup ys))) ∨ (SqT K H p ys ∧ Q (.ref p) H))
theorem cr_tupOf {X : Cx} : CallR X (.type "tuple") (rTupOf X.K) := call_tuple_of
theorem wc_tupL (h : RdL K ps a xs) (k : ∀ p, Φ (.ref p) (pt p (.tup xs) :: ps)) : Wc (rTupOf K) [.ref a] ps Φ := fun H Q s q => ⟨a, xs, rfl, .inl ⟨h.at' s, fun l hl => q _ _ _ (k l) (s.new hl)⟩⟩

/-! ### items, slices, joined lists -/
theorem w2_ixL (h : RdL K ps a xs) (g : atI xs i = some v) (k : Φ v ps) : W2 (rIxL K) (.ref a) (.int i) ps Φ := fun H Q s q => ⟨a, xs, i, v, rfl, rfl, h.at' s, g, q _ _ _ k s⟩
theorem w2_ixT (h : RdT K ps a xs) (g : atI xs i = some v) (k : Φ v ps) : W2 (rIxT K) (.ref a) (.int i) ps Φ := fun H Q s q => ⟨a, xs, i, v, rfl, rfl, h.at' s, g, q _ _ _ k s⟩
theorem we_sl {r : V → Option Int → Option Int → Hp → VK → Prop} {tl th : TO} (h : We te σ ps fun x ps1 => Wo tl σ ps1 fun l ps2 => Wo th σ ps2 fun u ps3 => Wsl r x l u ps3 Φ) : We (tSl r te tl th) σ ps Φ := fun H Q s q =>
  h H _ s fun x ps1 H1 h1 s1 => h1 H1 _ s1 fun l ps2 H2 h2 s2 => h2 H2 _ s2 fun u ps3 H3 h3 s3 => h3 H3 Q s3 q
theorem wo_none {Φ : Option Int → List HP → Prop} (k : Φ none ps) : Wo tNoPart σ ps Φ := fun H Q s q => q _ _ _ k s
def IntG (x : V) (ps : List HP) (Φ : Option Int → List HP → Prop) : Prop := ∃ i, x = .int i ∧ Φ (some i) ps
theorem intG {Φ : Option Int → List HP → Prop} (k : Φ (some i) ps) : IntG (.int i) ps Φ := ⟨i, rfl, k⟩
theorem wo_some {Φ : Option Int → List HP → Prop} (h : We te σ ps fun x ps1 => IntG x ps1 Φ) : Wo (tPart te) σ ps Φ := fun H Q s q => h H _ s fun x ps1 H1 ⟨i, e, k⟩ s1 => ⟨i, e, q _ _ _ k s1⟩
theorem wsl_L {lo hi : Option Int} (h : RdL K ps a xs) (k : ∀ p, Φ (.ref p) (pt p (.lst (cutV xs lo hi)) :: ps)) : Wsl (rSlL K) (.ref a) lo hi ps Φ := fun H Q s q => ⟨a, xs, rfl, h.at' s, fun p hp => q _ _ _ (k p) (s.new hp)⟩
theorem wsl_T {lo hi : Option Int} (h : RdT K ps a xs) (k1 : HT.sIx xs.length 0 lo = 0 ∧ HT.sIx xs.length xs.length hi = xs.length → Φ (.ref a) ps) (k2 : ¬ (HT.sIx xs.length 0 lo = 0 ∧ HT.sIx xs.length xs.length hi = xs.length) → ∀ p, Φ (.ref p) (pt p (.tup (cutV xs lo hi)) :: ps)) :
    Wsl (rSlA K) (.ref a) lo hi ps Φ := fun H Q s q => ⟨a, xs, rfl, h.at' s, fun z => q _ _ _ (k1 z) s, fun z p hp => q _ _ _ (k2 z p) (s.new hp)⟩
theorem w2_cat (m1 : pt a (.lst xs) ∈ ps) (m2 : pt b (.lst ys) ∈ ps) (l : xs.length + ys.length ≤ sizeLine) (k : ∀ p, Φ (.ref p) (pt p (.lst (xs ++ ys)) :: ps)) : W2 rCat (.ref a) (.ref b) ps Φ := fun H Q s q =>
  ⟨a, b, xs, ys, rfl, rfl, s.get m1, s.get m2, l, fun p hp => q _ _ _ (k p) (s.new hp)⟩
theorem w2_rep (m : pt a (.lst xs) ∈ ps) (h1 : -(2 ^ 63) ≤ i) (h2 : i < 2 ^ 63) (l : xs.length * i.toNat ≤ sizeLine) (k : ∀ p, Φ (.ref p) (pt p (.lst (List.replicate i.toNat xs).flatten) :: ps)) : W2 rRep (.ref a) (.int i) ps Φ := fun H Q s q =>
  ⟨a, i, xs, rfl, rfl, s.get m, h1, h2, l, fun p hp => q _ _ _ (k p) (s.new hp)⟩
theorem w2_catT (h1 : RdT K ps a xs) (h2 : RdT K ps b ys) (l : xs.length + ys.length ≤ sizeLine) (n1 : xs ≠ []) (n2 : ys ≠ []) (k : ∀ p, Φ (.ref p) (pt p (.tup (xs ++ ys)) :: ps)) : W2 (rCatA K) (.ref a) (.ref b) ps Φ := fun H Q s q =>
  ⟨a, b, xs, ys, rfl, rfl, h1.at' s, h2.at' s, l, fun z => absurd z n1, fun _ z => absurd z n2, fun _ _ p hp => q _ _ _ (k p) (s.new hp)⟩
theorem w2_inL (h : RdL K ps a xs) (f : flatV x = true) (g : xs.all flatV = true) (k : Φ (.bl (inV x xs)) ps) : W2 (rIn K false) x (.ref a) ps Φ := fun H Q s q => ⟨a, xs, rfl, .inl (h.at' s), f, g, q _ _ _ k s⟩
theorem w2_inT (h : RdT K ps a xs) (f : flatV x = true) (g : xs.all flatV = true) (k : Φ (.bl (inV x xs)) ps) : W2 (rIn K false) x (.ref a) ps Φ := fun H Q s q => ⟨a, xs, rfl, .inr (h.at' s), f, g, q _ _ _ k s⟩
theorem w2_ninL (h : RdL K ps a xs) (f : flatV x = true) (g : xs.all flatV = true) (k : Φ (.bl (!inV x xs)) ps) : W2 (rIn K true) x (.ref a) ps Φ := fun H Q s q => ⟨a, xs, rfl, .inl (h.at' s), f, g, q _ _ _ k s⟩
theorem w2_ninT (h : RdT K ps a xs) (f : flatV x = true) (g : xs.all flatV = true) (k : Φ (.bl (!inV x xs)) ps) : W2 (rIn K true) x (.ref a) ps Φ := fun H Q s q => ⟨a, xs, rfl, .inr (h.at' s), f, g, q _ _ _ k s⟩

/-! ### data compared -/
@[irreducible] def RdD (K : PySem.W.Frag) (ps : List HP) (x : V) (d : PyData) : Prop := (∀ H, Sat H ps → Dp K H x d) ∧ SeqAt.shaped d = true
theorem rdd_int : RdD K ps (.int i) (.int i) := by unfold RdD; exact ⟨fun _ _ => .int i, rfl⟩
theorem rdd_non : RdD K ps .non .none := by unfold RdD; exact ⟨fun _ _ => .non, rfl⟩
theorem rdd_bl {c : Bool} : RdD K ps (.bl c) (.bool c) := by unfold RdD; exact ⟨fun _ _ => .bl c, rfl⟩
theorem w2_eqD {d e : PyData} (h1 : RdD K ps x d) (h2 : RdD K ps y e) (k : Φ (.bl (PyData.eqv d e)) ps) : W2 (rEqD K) x y ps Φ := by
  unfold RdD at h1 h2
  exact fun H Q s q => ⟨d, e, h1.1 H s, h2.1 H s, h1.2, h2.2, q _ _ _ k s⟩
theorem w2_neD {d e : PyData} (h1 : RdD K ps x d) (h2 : RdD K ps y e) (k : Φ (.bl (!PyData.eqv d e)) ps) : W2 (rNeD K) x y ps Φ := by
  unfold RdD at h1 h2
  exact fun H Q s q => ⟨d, e, h1.1 H s, h2.1 H s, h1.2, h2.2, q _ _ _ k s⟩

/-! ### methods of built-ins, stores -/
def TyG (K : PySem.W.Frag) (T : String) (x : V) (ps : List HP) (k : List HP → Prop) : Prop := (∀ H, Sat H ps → tyV K T x H) ∧ k ps
theorem we_BM {T : String} {r : V → List V → Hp → VK → Prop} (h : We te σ ps fun x ps1 => TyG K T x ps1 fun ps1 => Wa tr σ ps1 fun vs ps2 => Wm r x vs ps2 Φ) : We (tBM K T r te tr) σ ps Φ := fun H Q s q =>
  h H _ s fun x ps1 H1 ⟨ty, h1⟩ s1 => ⟨ty H1 s1, h1 H1 _ s1 fun vs ps2 H2 h2 s2 => h2 H2 Q s2 q⟩
theorem we_BM0 {T : String} {r : V → List V → Hp → VK → Prop} (h : We te σ ps fun x ps1 => TyG K T x ps1 fun ps1 => Wm r x [] ps1 Φ) : We (tBM0 K T r te) σ ps Φ := fun H Q s q =>
  h H _ s fun x ps1 H1 ⟨ty, h1⟩ s1 => ⟨ty H1 s1, h1 H1 Q s1 q⟩
theorem tyL {k : List HP → Prop} (h : RdL K ps a xs) (q : k ps) : TyG K "list" (.ref a) ps k := ⟨fun H s => .inl ⟨rfl, xs, h.at' s⟩, q⟩
theorem wm_append (m : Rep (pt a (.lst xs)) (pt a (.lst (xs ++ [y]))) ps ps') (l : xs.length < sizeLine) (k : Φ .non ps') : Wm rAppend (.ref a) [y] ps Φ := fun H Q s q =>
  ⟨a, xs, y, rfl, rfl, s.get m.mem, l, q _ _ _ k (s.rep m)⟩
theorem wm_popAt {n : Nat} (m : Rep (pt a (.lst xs)) (pt a (.lst (xs.eraseIdx n))) ps ps') (g : xs[n]? = some y) (e : i = (n : Int)) (hn : n < 2 ^ 62) (k : Φ y ps') : Wm rPopAt (.ref a) [.int i] ps Φ := fun H Q s q => by
  subst e
  have hl : n < xs.length := (List.getElem?_eq_some_iff.mp g).1
  refine ⟨a, xs, (n : Int), n, y, rfl, rfl, s.get m.mem, by omega, by omega, ?_, g, q _ _ _ k (s.rep m)⟩
  have h1 : ixN xs.length (n : Int) = some n := by
    unfold ixN
    rw [if_pos (by omega), if_pos (by omega)]
    simp
  exact (ixN_seq h1).1
theorem wst_L {n : Nat} {Ψ : List HP → Prop} (m : Rep (pt a (.lst xs)) (pt a (.lst (xs.set n y))) ps ps') (e : i = (n : Int)) (l : n < xs.length) (k : Ψ ps') : Wst rSetL (.ref a) (.int i) y ps Ψ := fun H Q s q => by
  subst e
  refine ⟨a, xs, (n : Int), n, rfl, rfl, s.get m.mem, ?_, q _ _ k (s.rep m)⟩
  unfold ixN
  rw [if_pos (by omega), if_pos (by omega)]
  simp

/-! ### dicts -/
/-- what the dict at a is read to hold at y -/
def DGetP (ps : List HP) (a : Addr) (y : V) (o : Option V) : Prop := ∀ H, Sat H ps → DGet H a y o
theorem dgetK {kvs : List (Key × V)} {q : Key} (m : pt a (.dK kvs) ∈ ps) (e : y = kV q) : DGetP ps a y (valV kvs q) := fun H s => by subst e; exact DGet.k (s.get m)
theorem dgetT {kvs : List (List Key × V)} {q : List Key} (m : pt a (.dT kvs) ∈ ps) (n : pt b (.tup (q.map kV)) ∈ ps) : DGetP ps a (.ref b) (valV kvs q) := fun H s => DGet.t (s.get m) (s.get n)
def DGetG (x y : V) (ps : List HP) (Φ : V → List HP → Prop) : Prop := ∃ a v, x = .ref a ∧ DGetP ps a y (some v) ∧ Φ v ps
theorem we_dget (h : We td σ ps fun x ps1 => We ti σ ps1 fun y ps2 => DGetG x y ps2 Φ) : We (tDGet td ti) σ ps Φ := fun H Q s q =>
  h H _ s fun x ps1 H1 h1 s1 => h1 H1 _ s1 fun y ps2 H2 ⟨a, v, e, g, k⟩ s2 => ⟨a, v, e, g H2 s2, q _ _ _ k s2⟩
def DInG (x y : V) (ps : List HP) (Φ : Bool → List HP → Prop) : Prop := ∃ a o, x = .ref a ∧ DGetP ps a y o ∧ Φ o.isSome ps
theorem we_din (h : We ti σ ps fun y ps1 => We td σ ps1 fun x ps2 => DInG x y ps2 fun c ps3 => Φ (.bl c) ps3) : We (tDIn ti td) σ ps Φ := fun H Q s q =>
  h H _ s fun y ps1 H1 h1 s1 => h1 H1 _ s1 fun x ps2 H2 ⟨a, o, e, g, k⟩ s2 => ⟨a, o, e, g H2 s2, q _ _ _ k s2⟩
theorem we_dnotin (h : We ti σ ps fun y ps1 => We td σ ps1 fun x ps2 => DInG x y ps2 fun c ps3 => Φ (.bl (!c)) ps3) : We (tDNotIn ti td) σ ps Φ := fun H Q s q =>
  h H _ s fun y ps1 H1 h1 s1 => h1 H1 _ s1 fun x ps2 H2 ⟨a, o, e, g, k⟩ s2 => ⟨a, o, e, g H2 s2, q _ _ _ k s2⟩
def DPutG (x y v : V) (ps : List HP) (k : List HP → Prop) : Prop := ∃ a ps', x = .ref a ∧ (∀ H, Sat H ps → ∃ H', DPut H a y v H' ∧ Sat H' ps') ∧ k ps'
theorem ws_dput (h : We tv σ ps fun v ps1 => We td σ ps1 fun x ps2 => We ti σ ps2 fun y ps3 => DPutG x y v ps3 (nx σ)) : Ws (sDPut td ti tv) nx rt bk ct σ ps := fun H D' s l =>
  h H _ s fun v ps1 H1 h1 s1 => h1 H1 _ s1 fun x ps2 H2 h2 s2 => h2 H2 _ s2 fun y ps3 H3 ⟨a, ps', e, g, k⟩ s3 => let ⟨H4, g1, g2⟩ := g H3 s3; ⟨a, H4, e, g1, l.nx _ _ _ k g2⟩
theorem dputK {kvs : List (Key × V)} {q : Key} {k : List HP → Prop} (e : y = kV q) (m : Rep (pt a (.dK kvs)) (pt a (.dK (putK kvs q v))) ps ps') (l : kvs.length < sizeLine) (h : k ps') : DPutG (.ref a) y v ps k := by
  subst e
  exact ⟨a, ps', rfl, fun H s => ⟨_, DPut.k (s.get m.mem) l, s.rep m⟩, h⟩
theorem dputT {kvs : List (List Key × V)} {q : List Key} {k : List HP → Prop} (n : pt b (.tup (q.map kV)) ∈ ps) (m : Rep (pt a (.dT kvs)) (pt a (.dT (putK kvs q v))) ps ps') (l : kvs.length < sizeLine) (h : k ps') : DPutG (.ref a) (.ref b) v ps k :=
  ⟨a, ps', rfl, fun H s => ⟨_, DPut.t (s.get m.mem) (s.get n) l, s.rep m⟩, h⟩
def DGet2G (x y z : V) (ps : List HP) (Φ : V → List HP → Prop) : Prop := ∃ a o, x = .ref a ∧ DGetP ps a y o ∧ Φ (o.getD z) ps
def IsDP (x : V) (ps : List HP) (k : List HP → Prop) : Prop := ∃ a, x = .ref a ∧ (∀ H, Sat H ps → IsD H a) ∧ k ps
theorem isDK {kvs : List (Key × V)} {k : List HP → Prop} (m : pt a (.dK kvs) ∈ ps) (h : k ps) : IsDP (.ref a) ps k := ⟨a, rfl, fun H s => .inl ⟨kvs, .inl (s.get m)⟩, h⟩
theorem we_dget2 {tx : TE} (h : We td σ ps fun x ps1 => IsDP x ps1 fun ps1 => We ti σ ps1 fun y ps2 => We tx σ ps2 fun z ps3 => DGet2G x y z ps3 Φ) : We (tDGet2 td ti tx) σ ps Φ := fun H Q s q =>
  h H _ s fun x ps1 H1 ⟨a, e, d, h1⟩ s1 => ⟨a, e, d H1 s1, h1 H1 _ s1 fun y ps2 H2 h2 s2 => h2 H2 _ s2 fun z ps3 H3 ⟨a', o, e', g, k⟩ s3 => by
    have : a = a' := V.ref.inj (e.symm.trans e')
    subst this
    exact ⟨o, g H3 s3, q _ _ _ k s3⟩⟩
/-- the pairs of a display -/
def Wp : List (TE × TE) → L2.St → List HP → (List (V × V) → List HP → Prop) → Prop
  | [], _, ps, Φ => Φ [] ps
  | (tk, tv) :: r, σ, ps, Φ => We tk σ ps fun x ps1 => We tv σ ps1 fun y ps2 => Wp r σ ps2 fun l ps3 => Φ ((x, y) :: l) ps3
theorem wp_run : ∀ {trs : List (TE × TE)} {σ : L2.St} {ps : List HP} {Φ : List (V × V) → List HP → Prop}, Wp trs σ ps Φ → ∀ (H : Hp) (Q : List (V × V) → Hp → Prop), Sat H ps → (∀ v ps' H', Φ v ps' → Sat H' ps' → Q v H') → tPairs trs σ H Q
  | [], _, _, _, h, H, Q, s, q => q _ _ _ h s
  | (tk, tv) :: r, σ, ps, Φ, h, H, Q, s, q => h H _ s fun x ps1 H1 h1 s1 => h1 H1 _ s1 fun y ps2 H2 h2 s2 => wp_run h2 H2 _ s2 fun l ps3 H3 k s3 => q _ _ _ k s3
theorem we_disp {trs : List (TE × TE)} (h : ∀ p, Wp trs σ (pt p (.dK []) :: ps) fun l ps1 => ∃ kvs : List (Key × V), l = kvs.map (fun kv => (kV kv.1, kv.2)) ∧ kvs.length ≤ 15 ∧ ∃ ps2, Rep (pt p (.dK [])) (pt p (.dK (mergeK [] kvs))) ps1 ps2 ∧ Φ (.ref p) ps2) : We (tDisp trs) σ ps Φ := fun H Q s q p hp =>
  wp_run (h p) _ _ (s.new hp) fun l ps1 H1 ⟨kvs, e, hl, ps2, m, k⟩ s1 => ⟨s1.get m.mem, kvs, e, hl, q _ _ _ k (s1.rep m)⟩

/-! ### tuples unpacked -/
theorem wg_tup {n : Nat} {gs : TGs} {Φ : L2.St → List HP → Prop} (h : RdT K ps a xs) (l : xs.length = n) (k : Wgs gs xs σ ps Φ) : Wg (gTup K n gs) (.ref a) σ ps Φ := fun H Q s q => ⟨a, xs, rfl, h.at' s, l, k H Q s q⟩

/-! ### what is walked: so many turns, a word that lets them go, the items (with what is new) -/
structure Src where
  n : Nat
  rd : List HP → Prop
  item : Nat → V → List HP → Prop
structure SrcOk (S : Src) (J : It) : Prop where
  go : ∀ i ps H, S.rd ps → Sat H ps → i < S.n → J.go i H ∧ ∀ x H', J.yld i H x H' → ∃ ex, S.item i x ex ∧ Sat H' (ex ++ ps)
  stop : ∀ ps H, S.rd ps → Sat H ps → J.stop S.n H
def Wi (wi : TI) (σ : L2.St) (ps : List HP) (Φ : Src → List HP → Prop) : Prop := ∀ (H : Hp) (R : It → Hp → Prop), Sat H ps → (∀ S J ps' H', SrcOk S J → Φ S ps' → Sat H' ps' → R J H') → wi σ H R
def srcL (K : PySem.W.Frag) (a : Addr) (xs : List V) : Src := ⟨xs.length, fun ps => RdL K ps a xs, fun i x ex => xs[i]? = some x ∧ ex = []⟩
def srcT (K : PySem.W.Frag) (a : Addr) (xs : List V) : Src := ⟨xs.length, fun ps => RdT K ps a xs, fun i x ex => xs[i]? = some x ∧ ex = []⟩
def srcR (lo : Int) (n : Nat) : Src := ⟨n, fun _ => True, fun i x ex => x = .int (lo + (i : Nat)) ∧ ex = []⟩
def srcV (K : PySem.W.Frag) (a : Addr) (xs : List V) : Src := ⟨xs.length, fun ps => RdL K ps a xs, fun i x ex => xs[xs.length - 1 - i]? = some x ∧ ex = []⟩
def srcE (K : PySem.W.Frag) (a : Addr) (xs : List V) : Src := ⟨xs.length, fun ps => RdL K ps a xs, fun i x ex => ∃ p y, xs[i]? = some y ∧ x = .ref p ∧ ex = [pt p (.tup [.int (i : Nat), y])]⟩
def srcZ (K : PySem.W.Frag) (a b : Addr) (xs ys : List V) : Src := ⟨min xs.length ys.length, fun ps => RdL K ps a xs ∧ RdL K ps b ys, fun i x ex => ∃ p y z, xs[i]? = some y ∧ ys[i]? = some z ∧ x = .ref p ∧ ex = [pt p (.tup [y, z])]⟩
def srcC (lo c : Int) (n : Nat) : Src := ⟨n, fun _ => True, fun i x ex => x = .int (lo + (i : Nat) * c) ∧ ex = []⟩
theorem wi_L {tl : TE} {Φ : Src → List HP → Prop} (h : We tl σ ps fun x ps1 => ∃ a xs, x = .ref a ∧ RdL K ps1 a xs ∧ Φ (srcL K a xs) ps1) : Wi (iList K tl) σ ps Φ := fun H R s q =>
  h H _ s fun x ps1 H1 ⟨a, xs, e, rd, k⟩ s1 => ⟨a, e, ⟨xs, rd.at' s1⟩, q (srcL K a xs) _ ps1 H1 ⟨fun i ps H r s hi => ⟨⟨xs, xs[i], RdL.at' r s, List.getElem?_eq_getElem hi⟩, fun x H' ⟨e1, e2⟩ => ⟨[], ⟨e2 xs (RdL.at' r s), rfl⟩, by subst e1; exact s⟩⟩,
    fun ps H r s => ⟨xs, RdL.at' r s, Nat.le_refl _⟩⟩ k s1⟩
theorem wi_T {tl : TE} {Φ : Src → List HP → Prop} (h : We tl σ ps fun x ps1 => ∃ a xs, x = .ref a ∧ RdT K ps1 a xs ∧ Φ (srcT K a xs) ps1) : Wi (iTup K tl) σ ps Φ := fun H R s q =>
  h H _ s fun x ps1 H1 ⟨a, xs, e, rd, k⟩ s1 => ⟨a, e, ⟨xs, rd.at' s1⟩, q (srcT K a xs) _ ps1 H1 ⟨fun i ps H r s hi => ⟨⟨xs, xs[i], RdT.at' r s, List.getElem?_eq_getElem hi⟩, fun x H' ⟨e1, e2⟩ => ⟨[], ⟨e2 xs (RdT.at' r s), rfl⟩, by subst e1; exact s⟩⟩,
    fun ps H r s => ⟨xs, RdT.at' r s, Nat.le_refl _⟩⟩ k s1⟩
theorem wi_R1 {Φ : Src → List HP → Prop} (h : Wa tr σ ps fun vs ps1 => ∃ (j : Int) (n : Nat), vs = [.int j] ∧ n = j.toNat ∧ (-(2 ^ 60) ≤ j ∧ j < 2 ^ 60) ∧ Φ (srcR 0 n) ps1) : Wi (iRng1 tr) σ ps Φ := fun H R s q =>
  h H _ s fun vs ps1 H1 ⟨j, n, e, en, hj, k⟩ s1 => ⟨j, e, by omega, by omega, by
    subst en
    exact q (srcR 0 j.toNat) _ ps1 H1 ⟨fun i ps H r s hi => ⟨hi, fun x H' ⟨e1, e2⟩ => ⟨[], ⟨e2, rfl⟩, by subst e1; exact s⟩⟩, fun ps H r s => Nat.le_refl _⟩ k s1⟩
theorem wi_R2 {Φ : Src → List HP → Prop} (h : Wa tr σ ps fun vs ps1 => ∃ (lo j : Int) (n : Nat), vs = [.int lo, .int j] ∧ n = (j - lo).toNat ∧ (-(2 ^ 60) ≤ lo ∧ lo < 2 ^ 60 ∧ -(2 ^ 60) ≤ j ∧ j < 2 ^ 60) ∧ Φ (srcR lo n) ps1) : Wi (iRng2 tr) σ ps Φ := fun H R s q =>
  h H _ s fun vs ps1 H1 ⟨lo, j, n, e, en, hj, k⟩ s1 => ⟨lo, j, e, by omega, by
    subst en
    exact q (srcR lo (j - lo).toNat) _ ps1 H1 ⟨fun i ps H r s hi => ⟨hi, fun x H' ⟨e1, e2⟩ => ⟨[], ⟨e2, rfl⟩, by subst e1; exact s⟩⟩, fun ps H r s => Nat.le_refl _⟩ k s1⟩
theorem wi_V {Φ : Src → List HP → Prop} (h : Wa tr σ ps fun vs ps1 => ∃ a xs, vs = [.ref a] ∧ RdL K ps1 a xs ∧ Φ (srcV K a xs) ps1) : Wi (iRev K tr) σ ps Φ := fun H R s q =>
  h H _ s fun vs ps1 H1 ⟨a, xs, e, rd, k⟩ s1 => ⟨a, xs, e, rd.at' s1, q (srcV K a xs) _ ps1 H1 ⟨fun i ps H r s hi => by
    have hi : i < xs.length := hi
    have hx : xs.length - 1 - i < xs.length := by omega
    exact ⟨⟨hi, xs, xs[xs.length - 1 - i], RdL.at' r s, List.getElem?_eq_getElem hx⟩, fun x H' ⟨e1, e2⟩ => ⟨[], ⟨e2 xs (RdL.at' r s), rfl⟩, by subst e1; exact s⟩⟩, fun ps H r s => Nat.le_refl _⟩ k s1⟩
theorem wi_E {Φ : Src → List HP → Prop} (h : Wa tr σ ps fun vs ps1 => ∃ a xs, vs = [.ref a] ∧ RdL K ps1 a xs ∧ Φ (srcE K a xs) ps1) : Wi (iEnum K tr) σ ps Φ := fun H R s q =>
  h H _ s fun vs ps1 H1 ⟨a, xs, e, rd, k⟩ s1 => ⟨a, xs, e, rd.at' s1, q (srcE K a xs) _ ps1 H1 ⟨fun i ps H r s hi => ⟨⟨xs, xs[i], RdL.at' r s, List.getElem?_eq_getElem hi⟩, by
    rintro v H' ⟨T, x, rfl, hT, rfl, hx⟩
    exact ⟨[pt T (.tup [.int (i : Nat), x])], ⟨T, x, hx xs (RdL.at' r s), rfl, rfl⟩, s.new hT⟩⟩, fun ps H r s => ⟨xs, RdL.at' r s, Nat.le_refl _⟩⟩ k s1⟩
theorem wi_Z {Φ : Src → List HP → Prop} (h : Wa tr σ ps fun vs ps1 => ∃ a b xs ys, vs = [.ref a, .ref b] ∧ RdL K ps1 a xs ∧ RdL K ps1 b ys ∧ Φ (srcZ K a b xs ys) ps1) : Wi (iZip K tr) σ ps Φ := fun H R s q =>
  h H _ s fun vs ps1 H1 ⟨a, b, xs, ys, e, rd, rd2, k⟩ s1 => ⟨a, b, xs, ys, e, rd.at' s1, rd2.at' s1, q (srcZ K a b xs ys) _ ps1 H1 ⟨fun i ps H r s hi => by
    have hi : i < min xs.length ys.length := hi
    have h1 : i < xs.length := by omega
    have h2 : i < ys.length := by omega
    refine ⟨⟨xs, ys, xs[i], ys[i], RdL.at' r.1 s, RdL.at' r.2 s, List.getElem?_eq_getElem h1, List.getElem?_eq_getElem h2⟩, ?_⟩
    rintro v H' ⟨T, x, y, rfl, hT, rfl, hx, hy⟩
    exact ⟨[pt T (.tup [x, y])], ⟨T, x, y, hx xs (RdL.at' r.1 s), hy ys (RdL.at' r.2 s), rfl, rfl⟩, s.new hT⟩, fun ps H r s => by
    refine ⟨xs, ys, RdL.at' r.1 s, RdL.at' r.2 s, ?_⟩
    show xs.length ≤ min xs.length ys.length ∨ ys.length ≤ min xs.length ys.length
    omega⟩ k s1⟩

/-! ### loops -/
theorem ws_for {wi : TI} {g : TG} (h : Wi wi σ ps fun S ps1 => ∃ W : Nat → L2.St → List HP → Prop, W 0 σ ps1 ∧ (∀ i σ ps, W i σ ps → i ≤ S.n → S.rd ps) ∧
    (∀ i x ex σ ps, i < S.n → S.item i x ex → W i σ ps → Wg g x σ (ex ++ ps) fun σ2 ps2 => Ws ts (W (i + 1)) rt nx (W (i + 1)) σ2 ps2) ∧ ∀ σ ps, W S.n σ ps → nx σ ps) : Ws (tFor wi g ts) nx rt bk ct σ ps := fun H D' s l =>
  h H _ s fun S J ps1 H1 ok ⟨W, w0, wl, wt, we⟩ s1 => by
    refine ⟨fun i m σ H => m + i = S.n ∧ ∃ ps, W i σ ps ∧ Sat H ps, ⟨S.n, rfl, ps1, w0, s1⟩, fun i m σ H ⟨hm, ps, w, s⟩ => ?_⟩
    have rd := wl i σ ps w (by omega)
    by_cases hi : i < S.n
    · obtain ⟨g1, g2⟩ := ok.go i ps H rd s hi
      refine .inr ⟨g1, fun σ' H' => ∃ ps', W (i + 1) σ' ps' ∧ Sat H' ps', fun σ' H' ⟨ps', w', s'⟩ => ⟨m - 1, by omega, by omega, ps', w', s'⟩, fun x H' y => ?_⟩
      obtain ⟨ex, it, s2⟩ := g2 x H' y
      exact wt i x ex σ ps hi it w _ _ s2 fun σ2 ps2 H2 h2 s2 => h2 H2 _ s2 ⟨fun σ ps H k s => ⟨ps, k, s⟩, l.rt, fun σ ps H k s => l.nx _ _ _ k s, fun σ ps H k s => ⟨ps, k, s⟩⟩
    · have e : i = S.n := by omega
      subst e
      exact .inl ⟨ok.stop ps H rd s, l.nx _ _ _ (we σ ps w) s⟩
theorem ws_while (W : Nat → L2.St → List HP → Prop) (w0 : ∃ m, W m σ ps)
    (hs : ∀ m σ ps, W m σ ps → Wt t σ ps fun b ps1 => if b = true then Ws ts (fun σ' ps' => ∃ m', m' < m ∧ W m' σ' ps') rt nx (fun σ' ps' => ∃ m', m' < m ∧ W m' σ' ps') σ ps1 else nx σ ps1) : Ws (tWhile t ts) nx rt bk ct σ ps := fun H D' s l => by
  obtain ⟨m0, w0⟩ := w0
  refine ⟨fun m σ H => ∃ ps, W m σ ps ∧ Sat H ps, ⟨m0, ps, w0, s⟩, fun m σ H ⟨ps, w, s⟩ => ?_⟩
  refine hs m σ ps w H _ s fun b ps1 H1 k s1 => ?_
  cases b with
  | true =>
    rw [if_pos rfl] at k ⊢
    refine ⟨fun σ' H' => ∃ ps', (∃ m', m' < m ∧ W m' σ' ps') ∧ Sat H' ps', fun σ' H' ⟨ps', ⟨m', h1, h2⟩, h3⟩ => ⟨m', h1, ps', h2, h3⟩, ?_⟩
    exact k H1 _ s1 ⟨fun σ ps H k s => ⟨ps, k, s⟩, l.rt, fun σ ps H k s => l.nx _ _ _ k s, fun σ ps H k s => ⟨ps, k, s⟩⟩
  | false =>
    rw [if_neg Bool.false_ne_true] at k ⊢
    exact l.nx _ _ _ k s1

/-! ### comprehensions (one clause) -/
theorem wt_yes {Φ : Bool → List HP → Prop} (k : Φ true ps) : Wt tYes σ ps Φ := fun H Q s q => q _ _ _ k s
def WipG (σ σ' : L2.St) (k : Prop) : Prop := σ = σ' ∧ k
theorem wipG {σ σ' : L2.St} {k : Prop} (e : σ = σ') (h : k) : WipG σ σ' k := ⟨e, h⟩
/-- the new item goes to the list that is made -/
def AccG (d : Addr) (acc : List V) (y : V) (ps : List HP) (k : List V → List HP → Prop) : Prop := acc.length < sizeLine ∧ ∃ ps', Rep (pt d (.lst acc)) (pt d (.lst (acc ++ [y]))) ps ps' ∧ k (acc ++ [y]) ps'
theorem accG {d : Addr} {acc : List V} {k : List V → List HP → Prop} (r : Rep (pt d (.lst acc)) (pt d (.lst (acc ++ [y]))) ps ps') (l : acc.length < sizeLine) (h : k (acc ++ [y]) ps') : AccG d acc y ps k := ⟨l, ps', r, h⟩
theorem we_lc {wi : TI} {g : TG} {ns : List Nat} (h : Wi wi σ ps fun S ps1 => ∃ W : Addr → Nat → List V → List HP → Prop, (∀ d, W d 0 [] (pt d (.lst []) :: ps1)) ∧ (∀ d i acc ps, W d i acc ps → i ≤ S.n → S.rd ps) ∧
    (∀ d i x ex acc ps, i < S.n → S.item i x ex → W d i acc ps → Wg g x (wipe σ ns) (ex ++ ps) fun σ2 ps2 => WipG (wipe σ2 ns) (wipe σ ns) (Wt t σ2 ps2 fun b ps3 =>
      if b = true then We te σ2 ps3 fun y ps4 => AccG d acc y ps4 (W d (i + 1)) else W d (i + 1) acc ps3)) ∧
    ∀ d acc ps, W d S.n acc ps → Φ (.ref d) ps) : We (tLc wi g t te ns) σ ps Φ := fun H Q s q =>
  h H _ s fun S J ps1 H1 ok ⟨W, w0, wl, wt, we⟩ s1 d hd => by
    refine ⟨fun i m H => m + i = S.n ∧ ∃ acc ps, W d i acc ps ∧ Sat H ps, ⟨S.n, rfl, [], _, w0 d, s1.new hd⟩, fun i m H ⟨hm, acc, ps, w, s⟩ => ?_⟩
    have rd := wl d i acc ps w (by omega)
    by_cases hi : i < S.n
    · obtain ⟨g1, g2⟩ := ok.go i ps H rd s hi
      refine .inr ⟨g1, fun H' => ∃ acc ps', W d (i + 1) acc ps' ∧ Sat H' ps', fun H' ⟨acc', ps', w', s'⟩ => ⟨m - 1, by omega, by omega, acc', ps', w', s'⟩, fun x H' y => ?_⟩
      obtain ⟨ex, it, s2⟩ := g2 x H' y
      refine wt d i x ex acc ps hi it w _ _ s2 fun σ2 ps2 H2 ⟨ew, h2⟩ s2 => ⟨ew, h2 H2 _ s2 fun b ps3 H3 k s3 => ?_⟩
      cases b with
      | true =>
        rw [if_pos rfl] at k ⊢
        refine k H3 _ s3 fun y ps4 H4 ⟨hl, ps5, r, w5⟩ s4 => ?_
        exact ⟨acc, s4.get r.mem, hl, acc ++ [y], ps5, w5, s4.rep r⟩
      | false =>
        rw [if_neg Bool.false_ne_true] at k ⊢
        exact ⟨acc, ps3, k, s3⟩
    · have e : i = S.n := by omega
      subst e
      exact .inl ⟨ok.stop ps H rd s, q _ _ _ (we d acc ps w) s⟩

/-! ### defs of the text -/
/-- a promise over symbolic heaps -/
abbrev SP := List V → List HP → (V → List HP → Prop) → Prop
def spS (S : SP) : L2.Sp := fun vs H Q _ => ∃ ps Φ, Sat H ps ∧ S vs ps Φ ∧ ∀ v ps' H', Φ v ps' → Sat H' ps' → Q v H'
/-- .. of a def that may raise: Ψ of the class -/
abbrev SX := List V → List HP → (V → List HP → Prop) → (Value → List HP → Prop) → Prop
def spX (S : SX) : L2.Sp := fun vs H Q E => ∃ ps Φ Ψ, Sat H ps ∧ S vs ps Φ Ψ ∧ (∀ v ps' H', Φ v ps' → Sat H' ps' → Q v H') ∧ ∀ c ps' H', Ψ c ps' → Sat H' ps' → E c none H'
theorem we_call {S : SP} {E : XK} (h : Wa tr σ ps fun vs ps1 => S vs ps1 Φ) : We (tCall (spS S) [] E tr) σ ps Φ := fun H Q s q => h H _ s fun vs ps1 H1 k s1 => by
  show spS S (vs ++ []) H1 Q E
  rw [List.append_nil]
  exact ⟨ps1, Φ, s1, k, q⟩
def MethG (C : Addr) (m : Str) (x : V) (ps : List HP) (k : List HP → Prop) : Prop := ∃ a, x = .ref a ∧ (∀ H, Sat H ps → ∃ dx fs, H a = some (.ins C dx fs) ∧ fs.lookup m = none) ∧ k ps
theorem methG {names : List Str} {I : CI K names} {fs : List (Str × V)} {r : List Str} {m : Str} {k : List HP → Prop} (h : obj I a fs ∈ ps) (p : fs.map (·.1) ++ r = names) (n : m ∉ names) (q : k ps) : MethG I.C m (.ref a) ps k := ⟨a, rfl, fun H s => by
  obtain ⟨dx, e⟩ := s.obj h
  exact ⟨dx, fs, e, lookup_not fun z => n (by rw [← p]; exact List.mem_append_left _ z)⟩, q⟩
/-- .. of a part that holds the object -/
theorem methC {c : HP} {C : Addr} {m : Str} {k : List HP → Prop} (h : c ∈ ps) (e : ∀ H R, Sat H (c :: R) → ∃ dx fs, H a = some (.ins C dx fs) ∧ fs.lookup m = none) (q : k ps) : MethG C m (.ref a) ps k := ⟨a, rfl, fun H s => by
  obtain ⟨l1, l2, rfl⟩ := List.append_of_mem h
  exact e H _ (s.perm List.perm_middle), q⟩
theorem MethG.at' {C : Addr} {m : Str} {k : List HP → Prop} {H : Hp} (g : MethG C m x ps k) (s : Sat H ps) : ∃ a dx fs, x = .ref a ∧ H a = some (.ins C dx fs) ∧ fs.lookup m = none ∧ k ps := by
  obtain ⟨a, rfl, h, q⟩ := g
  obtain ⟨dx, fs, e1, e2⟩ := h H s
  exact ⟨a, dx, fs, rfl, e1, e2, q⟩
theorem we_meth {S : SP} {E : XK} {C : Addr} {m : Str} (h : We te σ ps fun x ps1 => MethG C m x ps1 fun ps1 => Wa tr σ ps1 fun vs ps2 => S (x :: vs) ps2 Φ) : We (tMeth C m (spS S) [] E te tr) σ ps Φ := fun H Q s q =>
  h H _ s fun x ps1 H1 g s1 => by
    obtain ⟨a, dx, fs, e1, e2, e3, k⟩ := g.at' s1
    refine ⟨a, dx, fs, e1, e2, e3, k H1 _ s1 fun vs ps2 H2 k2 s2 => ?_⟩
    show spS S (x :: (vs ++ [])) H2 Q E
    rw [List.append_nil]
    exact ⟨ps2, Φ, s2, k2, q⟩
theorem we_make {S : SP} {E : XK} {names : List Str} {I : CI K names} (h : Wa tr σ ps fun vs ps1 => ∀ x, S (.ref x :: vs) (obj I x [] :: ps1) fun v ps2 => v = .non ∧ Φ (.ref x) ps2) : We (tMake I.C (spS S) [] E tr) σ ps Φ := fun H Q s q =>
  h H _ s fun vs ps1 H1 k s1 x dx hx hdx ne => by
    show spS S (.ref x :: (vs ++ [])) _ _ E
    rw [List.append_nil]
    refine ⟨_, _, ?_, k x, fun v ps' H' ⟨e, f⟩ s' => ⟨e, q _ _ _ f s'⟩⟩
    have t1 := s1.new (o := .own x) hdx
    have t2 := t1.new (a := x) (o := .ins I.C dx []) (by rw [upd_ne (Ne.symm ne)]; exact hx)
    have t3 := t2.perm (List.Perm.swap _ _ _)
    have t4 := t3.drop
    unfold Sp.obj
    exact Sat.ex.mpr ⟨dx, t4⟩
theorem we_callX {S : SX} {E : XK} {Ψ : Value → List HP → Prop} (hE : ∀ c ps' H', Ψ c ps' → Sat H' ps' → E c none H') (h : Wa tr σ ps fun vs ps1 => S vs ps1 Φ Ψ) : We (tCall (spX S) [] E tr) σ ps Φ := fun H Q s q => h H _ s fun vs ps1 H1 k s1 => by
  show spX S (vs ++ []) H1 Q E
  rw [List.append_nil]
  exact ⟨ps1, Φ, Ψ, s1, k, q, hE⟩
theorem we_methX {S : SX} {E : XK} {Ψ : Value → List HP → Prop} {C : Addr} {m : Str} (hE : ∀ c ps' H', Ψ c ps' → Sat H' ps' → E c none H') (h : We te σ ps fun x ps1 => MethG C m x ps1 fun ps1 => Wa tr σ ps1 fun vs ps2 => S (x :: vs) ps2 Φ Ψ) : We (tMeth C m (spX S) [] E te tr) σ ps Φ := fun H Q s q =>
  h H _ s fun x ps1 H1 g s1 => by
    obtain ⟨a, dx, fs, e1, e2, e3, k⟩ := g.at' s1
    refine ⟨a, dx, fs, e1, e2, e3, k H1 _ s1 fun vs ps2 H2 k2 s2 => ?_⟩
    show spX S (x :: (vs ++ [])) H2 Q E
    rw [List.append_nil]
    exact ⟨ps2, Φ, Ψ, s2, k2, q, hE⟩
theorem we_makeX {S : SX} {E : XK} {Ψ : Value → List HP → Prop} {names : List Str} {I : CI K names} (hE : ∀ c ps' H', Ψ c ps' → Sat H' ps' → E c none H') (h : Wa tr σ ps fun vs ps1 => ∀ x, S (.ref x :: vs) (obj I x [] :: ps1) (fun v ps2 => v = .non ∧ Φ (.ref x) ps2) Ψ) : We (tMake I.C (spX S) [] E tr) σ ps Φ := fun H Q s q =>
  h H _ s fun vs ps1 H1 k s1 x dx hx hdx ne => by
    show spX S (.ref x :: (vs ++ [])) _ _ E
    rw [List.append_nil]
    refine ⟨_, _, Ψ, ?_, k x, fun v ps' H' ⟨e, f⟩ s' => ⟨e, q _ _ _ f s'⟩, hE⟩
    have t1 := s1.new (o := .own x) hdx
    have t2 := t1.new (a := x) (o := .ins I.C dx []) (by rw [upd_ne (Ne.symm ne)]; exact hx)
    have t3 := t2.perm (List.Perm.swap _ _ _)
    have t4 := t3.drop
    unfold Sp.obj
    exact Sat.ex.mpr ⟨dx, t4⟩
/-- raise X('..') -/
theorem ws_raise {c : Value} {W : WX} (h : ∀ H, Sat H ps → W c none σ H) : Ws (fun _ σ H => (fun (_ : L2.St) (H : Hp) (Q : XK) => Q c none H) σ H fun cls d H' => W cls d σ H') nx rt bk ct σ ps := fun H D' s l => h H s
/-- what is left at a def's end -/
def OutP (Φ : V → List HP → Prop) (v : V) (ps : List HP) : Prop := ∀ H, Sat H ps → ∃ ps', Sat H ps' ∧ Φ v ps'
abbrev noN : PN := fun _ _ => False
end
section
variable {P : Program} {w : World} {K : PySem.W.Frag} {mg : Str → Option Value} {base : Heap}
theorem okS {x qual : Str} {st : Stmt} {f : Addr} {fd : FuncData} {N pars : List Str} {k : Nat} {S : SP} (F : Fun K x qual st f fd) (Sc : FnScope N pars (defScope st)) (len : ∀ vs ps Φ, S vs ps Φ → vs.length = pars.length)
    (body : ∀ (cdv : Value) (A : Around) (outer : List Env) (s : Shared) (H : Hp) (E : XK), Room k (A.deeper (envOfC qual (defScope st) s.heap.objs.size f cdv)) →
      ∃ t, PSs (cxOf CX0 P w K mg base N qual (defScope st) f cdv A outer s H E).nox (defBody st) t ∧ ∀ vs ps Φ, S vs ps Φ → Ws t (fun _ ps' => OutP Φ .non ps') (OutP Φ) noN noN (start N vs) ps) : FnOk P w K mg base CX0 (k + 1) f fd pars (spS S) := by
  refine F.ok Sc (fun vs H Q E h => ?_) (fun cdv A outer s H vs Q E hr h => ?_)
  · obtain ⟨ps, Φ, _, h, _⟩ := h
    exact len vs ps Φ h
  · obtain ⟨ps, Φ, s0, h, q⟩ := h
    obtain ⟨t, d, r⟩ := body cdv A outer s H E hr
    exact ⟨t, d, r vs ps Φ h H _ s0 ⟨fun σ ps' H' o s' => let ⟨ps2, s2, f⟩ := o H' s'; q _ _ _ f s2, fun v ps' H' o s' => let ⟨ps2, s2, f⟩ := o H' s'; q _ _ _ f s2, fun _ _ _ z => z.elim, fun _ _ _ z => z.elim⟩⟩
theorem okX {x qual : Str} {st : Stmt} {f : Addr} {fd : FuncData} {N pars : List Str} {k : Nat} {S : SX} (F : Fun K x qual st f fd) (Sc : FnScope N pars (defScope st)) (len : ∀ vs ps Φ Ψ, S vs ps Φ Ψ → vs.length = pars.length)
    (body : ∀ (cdv : Value) (A : Around) (outer : List Env) (s : Shared) (H : Hp) (E : XK), Room k (A.deeper (envOfC qual (defScope st) s.heap.objs.size f cdv)) →
      ∃ t, PSs (cxOf (L2.CX P w) P w K mg base N qual (defScope st) f cdv A outer s H E) (defBody st) t ∧ ∀ vs ps Φ Ψ, S vs ps Φ Ψ → (∀ c ps' H', Ψ c ps' → Sat H' ps' → E c none H') → Ws t (fun _ ps' => OutP Φ .non ps') (OutP Φ) noN noN (start N vs) ps) : FnOk P w K mg base (L2.CX P w) (k + 1) f fd pars (spX S) := by
  refine F.okX Sc (fun vs H Q E h => ?_) (fun cdv A outer s H vs Q E hr h => ?_)
  · obtain ⟨ps, Φ, Ψ, _, h, _⟩ := h
    exact len vs ps Φ Ψ h
  · obtain ⟨ps, Φ, Ψ, s0, h, q, qE⟩ := h
    obtain ⟨t, d, r⟩ := body cdv A outer s H E hr
    exact ⟨t, d, r vs ps Φ Ψ h qE H _ s0 ⟨fun σ ps' H' o s' => let ⟨ps2, s2, f⟩ := o H' s'; q _ _ _ f s2, fun v ps' H' o s' => let ⟨ps2, s2, f⟩ := o H' s'; q _ _ _ f s2, fun _ _ _ z => z.elim, fun _ _ _ z => z.elim⟩⟩
end
/-- two readings of one expression -/
theorem pe_or2 {X : Cx} {e : Expr} {t u : TE} (h : PE X e t) (k : PE X e u) : PE X e (fun σ H Q => t σ H Q ∨ u σ H Q) := ⟨fun pins s σ H Q I z => z.elim (fun z => h.run pins s σ H Q I z) fun z => k.run pins s σ H Q I z⟩
end Sp
namespace Sp
open PySem PySem.Spec PyProof.Rows L2
theorem iteD {c : Prop} [Decidable c] {A B : Prop} (h1 : c → A) (h2 : ¬ c → B) : if decide c = true then A else B := by
  by_cases h : c
  · rw [decide_eq_true h, if_pos rfl]; exact h1 h
  · rw [decide_eq_false h, if_neg Bool.false_ne_true]; exact h2 h
theorem iteND {c : Prop} [Decidable c] {A B : Prop} (h1 : ¬ c → A) (h2 : c → B) : if (!decide c) = true then A else B := by
  by_cases h : c
  · rw [decide_eq_true h]; exact h2 h
  · rw [decide_eq_false h]; exact h1 h
theorem iteB {b : Bool} {A B : Prop} (h1 : b = true → A) (h2 : b = false → B) : if b = true then A else B := by
  cases b with
  | true => exact h1 rfl
  | false => exact h2 rfl
theorem iteNB {b : Bool} {A B : Prop} (h1 : b = false → A) (h2 : b = true → B) : if (!b) = true then A else B := by
  cases b with
  | true => exact h2 rfl
  | false => exact h1 rfl
/-- a value told, what is left as it stands -/
theorem OutP.mk' {Φ : V → List HP → Prop} {v : V} {ps ps' : List HP} (e : Ent ps ps') (h : Φ v ps') : OutP Φ v ps := fun H s => ⟨ps', e H s, h⟩
theorem OutP.here {Φ : V → List HP → Prop} {v : V} {ps : List HP} (h : Φ v ps) : OutP Φ v ps := fun H s => ⟨ps, s, h⟩
theorem atI_of {α : Type} {xs : List α} {i : Int} {j : Nat} {v : α} (e : i = (j : Int)) (h : xs[j]? = some v) : atI xs i = some v := by subst e; exact atI_nat h
end Sp

set_option Elab.async false
set_option linter.all false
set_option maxRecDepth 100000
set_option maxHeartbeats 4000000
/-! Data compared, isinstance, the script. -/
namespace Sp
open PySem PySem.Spec PyProof.Rows L2
section
variable {K : PySem.W.Frag} {te ta tb tv td ti : TE} {t u : TT} {tr : TA} {σ : L2.St} {ps ps' ps1 R : List HP} {Φ : V → List HP → Prop} {x y v : V} {a b p : Addr} {xs ys : List V}
/-! ### data -/
inductive RdDs (K : PySem.W.Frag) (ps : List HP) : List V → List PyData → Prop
  | nil : RdDs K ps [] []
  | cons {v : V} {d : PyData} {vs : List V} {ds : List PyData} (h : ∀ H, Sat H ps → Dp K H v d) (t : RdDs K ps vs ds) : RdDs K ps (v :: vs) (d :: ds)
theorem RdDs.all {vs : List V} {ds : List PyData} (h : RdDs K ps vs ds) {H : Hp} (s : Sat H ps) : DpAll K H vs ds := by
  induction h with
  | nil => exact .nil
  | cons h _ ih => exact .cons (h H s) ih
theorem rdd_list {ds : List PyData} (h : RdL K ps a xs) (g : RdDs K ps xs ds) (s : SeqAt.shaped (.list ds) = true) : RdD K ps (.ref a) (.list ds) := by
  unfold RdD
  exact ⟨fun H z => .lst (h.at' z) (g.all z), s⟩
theorem rdd_tup {ds : List PyData} (h : RdT K ps a xs) (g : RdDs K ps xs ds) (s : SeqAt.shaped (.tuple ds) = true) : RdD K ps (.ref a) (.tuple ds) := by
  unfold RdD
  exact ⟨fun H z => .tup (h.at' z) (g.all z), s⟩
theorem RdD.dp {d : PyData} (h : RdD K ps v d) : ∀ H, Sat H ps → Dp K H v d := by unfold RdD at h; exact h.1
theorem RdD.sh {d : PyData} (h : RdD K ps v d) : SeqAt.shaped d = true := by unfold RdD at h; exact h.2
theorem RdD.ent {d : PyData} (e : Ent ps ps') (h : RdD K ps' v d) : RdD K ps v d := by
  unfold RdD at *; exact ⟨fun H s => h.1 H (e H s), h.2⟩
theorem rdds_ints (ns : List Int) : RdDs K ps (ns.map V.int) (ns.map PyData.int) := by
  induction ns with
  | nil => exact .nil
  | cons n r ih => exact .cons (fun _ _ => .int n) ih
theorem canLay_ints (ns : List Int) : PyData.canLayAll0 (ns.map PyData.int) = true := by
  induction ns with
  | nil => rfl
  | cons n r ih => simp [PyData.canLayAll0, PyData.canLay0, ih]
theorem depthAll_ints (ns : List Int) : PyData.depthAll (ns.map PyData.int) ≤ 1 := by
  induction ns with
  | nil => simp [PyData.depthAll]
  | cons n r ih => simp only [List.map, PyData.depthAll, PyData.depth]; omega
theorem shaped_ints (ns : List Int) : SeqAt.shaped (.list (ns.map PyData.int)) = true := by
  have h := depthAll_ints ns
  unfold SeqAt.shaped
  refine Bool.and_eq_true_iff.mpr ⟨canLay_ints ns, decide_eq_true ?_⟩
  show PyData.depthAll (ns.map PyData.int) + 1 ≤ 64
  omega
theorem shaped_tints (ns : List Int) : SeqAt.shaped (.tuple (ns.map PyData.int)) = true := by
  have h := depthAll_ints ns
  unfold SeqAt.shaped
  refine Bool.and_eq_true_iff.mpr ⟨canLay_ints ns, decide_eq_true ?_⟩
  show PyData.depthAll (ns.map PyData.int) + 1 ≤ 64
  omega
theorem rdd_ints {ns : List Int} (h : RdL K ps a (ns.map V.int)) : RdD K ps (.ref a) (.list (ns.map .int)) := rdd_list h (rdds_ints ns) (shaped_ints ns)
theorem rdd_tints {ns : List Int} (h : RdT K ps a (ns.map V.int)) : RdD K ps (.ref a) (.tuple (ns.map .int)) := rdd_tup h (rdds_ints ns) (shaped_tints ns)
theorem eqvAll_ints : ∀ ns ms : List Int, PyData.eqvAll (ns.map .int) (ms.map .int) = decide (ns = ms)
  | [], [] => by simp [PyData.eqvAll]
  | [], _ :: _ => by simp [PyData.eqvAll]
  | _ :: _, [] => by simp [PyData.eqvAll]
  | n :: ns, m :: ms => by
    simp only [List.map, PyData.eqvAll, PyData.eqv, eqvAll_ints ns ms, List.cons.injEq]
    by_cases h : n = m
    · subst h; simp
    · simp [h]
theorem eqv_ints (ns ms : List Int) : PyData.eqv (.list (ns.map .int)) (.list (ms.map .int)) = decide (ns = ms) := by
  simp only [PyData.eqv]; exact eqvAll_ints ns ms
theorem eqv_tints (ns ms : List Int) : PyData.eqv (.tuple (ns.map .int)) (.tuple (ms.map .int)) = decide (ns = ms) := by
  simp only [PyData.eqv]; exact eqvAll_ints ns ms
theorem eqv_self {d : PyData} (h : SeqAt.shaped d = true) : PyData.eqv d d = true := SeqAt.eqv_refl d (SeqAt.canLay_of_shaped h)

/-! ### isinstance -/
def rIsiW (K : PySem.W.Frag) : List V → Hp → VK → Prop := rIsi K
theorem cr_isi {X : Cx} : CallR X (.builtin "isinstance") (rIsiW X.K) := call_isi
def rIsiTW (K : PySem.W.Frag) : List V → Hp → VK → Prop := rIsiT K
theorem cr_isiT {X : Cx} : CallR X (.builtin "isinstance") (rIsiTW X.K) := call_isiT
/-- a value's built-in type -/
inductive TyP (K : PySem.W.Frag) (ps : List HP) : V → String → Prop
  | non : TyP K ps .non "NoneType"
  | bl (c : Bool) : TyP K ps (.bl c) "bool"
  | int (i : Int) : TyP K ps (.int i) "int"
  | str (z : Str) : TyP K ps (.str z) "str"
  | lst {a : Addr} {xs : List V} (m : pt a (.lst xs) ∈ ps) : TyP K ps (.ref a) "list"
  | tup {a : Addr} {xs : List V} (m : pt a (.tup xs) ∈ ps) : TyP K ps (.ref a) "tuple"
  | of {a : Addr} {n : String} (h : ∀ H, Sat H ps → TyX K H (.ref a) (.type n)) : TyP K ps (.ref a) n
theorem TyP.tyx {n : String} (h : TyP K ps x n) {H : Hp} (s : Sat H ps) : TyX K H x (.type n) := by
  cases h with
  | non => exact .base .non
  | bl c => exact .base (.bl c)
  | int i => exact .base (.int i)
  | str z => exact .base (.str z)
  | lst m => exact .base (.lst (s.get m))
  | tup m => exact .base (.tup (s.get m))
  | of h => exact h H s
theorem wc_isi {n m : String} {c : Bool} (h : TyP K ps x n) (g : kitB n m = some c) (k : Φ (.bl c) ps) : Wc (rIsiW K) [x, .ty m] ps Φ := fun H Q s q =>
  ⟨x, .ty m, .type n, .type m, c, rfl, .ty m, h.tyx s, kit_ty g, q _ _ _ k s⟩

/-! ### the script; dice -/
/-- the script lies at a -/
@[irreducible] def scr (K : PySem.W.Frag) (a : Addr) (ns : List Int) : HP := fun L => (∃ o, L = [(a, .frz o (.lst (ns.map V.int)))]) ∨ (L = [(a, .lst (ns.map V.int))]) ∨ (L = [] ∧ ∀ H : Hp, SqL K H a (ns.map V.int))
theorem rdl_scr {ns : List Int} (m : scr K a ns ∈ ps) : RdL K ps a (ns.map V.int) := by
  unfold RdL
  intro H s
  unfold Sat at s
  obtain ⟨L, hO, hL⟩ := s
  obtain ⟨L1, h1, k⟩ := stars_mem m hL
  unfold scr at h1
  rcases h1 with ⟨o, rfl⟩ | rfl | ⟨_, h⟩
  · exact .inl (.inr ⟨o, hO.2 _ (k _ (List.mem_cons_self ..))⟩)
  · exact .inl (.inl (hO.2 _ (k _ (List.mem_cons_self ..))))
  · exact h H
theorem Sat.scr {ns : List Int} {H : Hp} (h : SqL K H a (ns.map V.int)) : Sat H [Sp.scr K a ns] := by
  unfold Sat
  rcases h with (h | ⟨o, h⟩) | h
  · refine ⟨[(a, .lst (ns.map V.int))], ⟨by simp, ?_⟩, [(a, .lst (ns.map V.int))], [], rfl, ?_, rfl⟩
    · intro c hc
      obtain rfl := List.mem_singleton.mp hc
      exact h
    · unfold Sp.scr; exact .inr (.inl rfl)
  · refine ⟨[(a, .frz o (.lst (ns.map V.int)))], ⟨by simp, ?_⟩, [(a, .frz o (.lst (ns.map V.int)))], [], rfl, ?_, rfl⟩
    · intro c hc
      obtain rfl := List.mem_singleton.mp hc
      exact h
    · unfold Sp.scr; exact .inl ⟨o, rfl⟩
  · exact ⟨[], ⟨List.nodup_nil, fun c hc => nomatch hc⟩, [], [], rfl, by unfold Sp.scr; exact .inr (.inr ⟨rfl, fun _ => .inr h⟩), rfl⟩
/-- what draws are made of: the numbers don't matter -/
@[irreducible] def dice (p a : Addr) : HP := exh fun (z : Int × Int × Int) => pt p (.lst [.int z.1, .ref a, .int z.2.1, .int z.2.2])
theorem Ent.dice {p a : Addr} {x j b : Int} : Ent (pt p (.lst [.int x, .ref a, .int j, .int b]) :: R) (Sp.dice p a :: R) := by
  unfold Sp.dice
  exact Ent.ex (f := fun (z : Int × Int × Int) => pt p (.lst [.int z.1, .ref a, .int z.2.1, .int z.2.2])) (x, j, b)
theorem Ws.dice {ts : TS} {nx : PN} {rt : V → List HP → Prop} {bk ct : PN} {p a : Addr} (h : ∀ x j b, Ws ts nx rt bk ct σ (pt p (.lst [.int x, .ref a, .int j, .int b]) :: ps)) : Ws ts nx rt bk ct σ (Sp.dice p a :: ps) := by
  unfold Sp.dice
  exact Ws.ex fun z => h z.1 z.2.1 z.2.2
end
end Sp
namespace Sp
theorem getD_lt {α : Type} {xs : List α} {i : Nat} {d : α} (h : i < xs.length) : xs[i]? = some (xs.getD i d) := by
  rw [List.getD_eq_getElem?_getD, List.getElem?_eq_getElem h]; rfl
theorem getD_ge {α : Type} {xs : List α} {i : Nat} {d : α} (h : xs.length ≤ i) : xs.getD i d = d := by
  rw [List.getD_eq_getElem?_getD, List.getElem?_eq_none h]; rfl
theorem map_at {α β : Type} {f : α → β} {xs : List α} {i : Nat} {x : α} (h : xs[i]? = some x) : (xs.map f)[i]? = some (f x) := by
  rw [List.getElem?_map, h]; rfl
end Sp
namespace Sp
open PySem PySem.Spec PyProof.Rows L2
theorem wst_Lz {ps ps' : List HP} {a : Addr} {xs : List V} {y : V} {i : Int} {Ψ : List HP → Prop} (m : Rep (pt a (.lst xs)) (pt a (.lst (xs.set i.toNat y))) ps ps') (h : 0 ≤ i) (l : i.toNat < xs.length) (k : Ψ ps') : Wst rSetL (.ref a) (.int i) y ps Ψ :=
  wst_L (n := i.toNat) m (Int.toNat_of_nonneg h).symm l k
theorem cmul_if {c : Bool} {j : Int} : CMul (if c = true then 1 else 0) j := by
  cases c
  · exact Or.inl ⟨by decide, by decide⟩
  · exact Or.inl ⟨by decide, by decide⟩
end Sp
namespace Sp
open PySem PySem.Spec PyProof.Rows L2
theorem RdL.cons {K : PySem.W.Frag} {c : HP} {R : List HP} {a : Addr} {xs : List V} (h : RdL K R a xs) : RdL K (c :: R) a xs := RdL.ent Ent.drop h
theorem RdT.cons {K : PySem.W.Frag} {c : HP} {R : List HP} {a : Addr} {xs : List V} (h : RdT K R a xs) : RdT K (c :: R) a xs := RdT.ent Ent.drop h
theorem mod_nat {i m : Int} (h : 0 < m) : ∃ r : Nat, i % m = (r : Int) ∧ (r : Int) < m := ⟨(i % m).toNat, (Int.toNat_of_nonneg (Int.emod_nonneg _ (by omega))).symm, by
  rw [Int.toNat_of_nonneg (Int.emod_nonneg _ (by omega))]; exact Int.emod_lt_of_pos _ h⟩
end Sp
namespace Sp
open PySem PySem.Spec PyProof.Rows L2
/-- a statement, then the rest, with a word between them -/
theorem ws_cut {ts tz : TS} {nx : PN} {rt : V → List HP → Prop} {bk ct : PN} {σ : L2.St} {ps : List HP} (Mid : PN) (h : Ws ts Mid rt bk ct σ ps) (k : ∀ σ ps, Mid σ ps → Ws tz nx rt bk ct σ ps) : Ws (tSeq ts tz) nx rt bk ct σ ps :=
  ws_seq (h.mono k (fun _ _ x => x) (fun _ _ x => x) fun _ _ x => x)
theorem snocI (row : List Int) (x : Int) : row.map V.int ++ [.int x] = (row ++ [x]).map V.int := by rw [List.map_append]; rfl
end Sp
namespace Sp
open PySem PySem.Spec PyProof.Rows L2
section
variable {ts tz : TS} {nx : PN} {rt : V → List HP → Prop} {bk ct : PN} {σ : L2.St} {ps : List HP}
theorem ws_word (Mid : PN) (h : Ws ts Mid rt bk ct σ ps) (k : ∀ σ ps, Mid σ ps → Ws tz nx rt bk ct σ ps) : Ws (Evl.tCut ts tz) nx rt bk ct σ ps := fun H D' s l =>
  ⟨fun σ' H' => ∃ ps', Mid σ' ps' ∧ Sat H' ps', h H _ s ⟨fun σ' ps' H' k s' => ⟨ps', k, s'⟩, l.rt, l.bk, l.ct⟩, fun σ' H' ⟨ps', m, s'⟩ => k σ' ps' m H' D' s' l⟩
theorem ws_plain (h : Ws ts (fun σ' ps' => Ws tz nx rt bk ct σ' ps') rt bk ct σ ps) : Ws (Evl.tCut ts tz) nx rt bk ct σ ps := ws_word _ h fun _ _ x => x
theorem wg_nil {g : TG} {v : V} {Φ : PN} (h : Wg g v σ ps Φ) : Wg g v σ ([] ++ ps) Φ := h
theorem wg_one {g : TG} {v : V} {c : HP} {Φ : PN} (h : Wg g v σ (c :: ps) Φ) : Wg g v σ ([c] ++ ps) Φ := h
end
end Sp
namespace Sp
open PySem PySem.Spec PyProof.Rows L2
theorem Wg.ent {g : TG} {v : V} {σ : L2.St} {ps ps' ex : List HP} {Φ : PN} (e : Ent ps ps') (h : Wg g v σ (ex ++ ps') Φ) : Wg g v σ (ex ++ ps) Φ := fun H Q s k => h H Q (Ent.app e H s) k
/-- the parts that are told are there -/
theorem Ent.of {cs ps R : List HP} (h : Picks cs ps R) : Ent ps cs := (Ent.picks h).trans ((Ent.perm List.perm_append_comm).trans Ent.dropAll)
end Sp
namespace Sp
open PySem PySem.Spec PyProof.Rows L2
theorem eqv_ints_self (ns : List Int) : PyData.eqv (.list (ns.map .int)) (.list (ns.map .int)) = true := by rw [eqv_ints]; exact decide_eq_true rfl
theorem eqv_tints_self (ns : List Int) : PyData.eqv (.tuple (ns.map .int)) (.tuple (ns.map .int)) = true := by rw [eqv_tints]; exact decide_eq_true rfl
theorem rdd_nil {K : PySem.W.Frag} {ps : List HP} {a : Addr} (h : RdL K ps a []) : RdD K ps (.ref a) (.list []) := rdd_ints (ns := []) h
end Sp
namespace Sp
theorem iteNT {A B : Prop} (h : B) : if (!true) = true then A else B := h
theorem iteNF {A B : Prop} (h : A) : if (!false) = true then A else B := h
end Sp
namespace Sp
theorem iteTe {b : Bool} {A B : Prop} (e : b = true) (h : A) : if b = true then A else B := by subst e; exact h
theorem iteFe {b : Bool} {A B : Prop} (e : b = false) (h : B) : if b = true then A else B := by subst e; exact iteF' h
where
  iteF' {A B : Prop} (h : B) : if false = true then A else B := h
end Sp

set_option Elab.async false
set_option linter.all false
set_option maxRecDepth 100000
set_option maxHeartbeats 4000000
/-! Dicts of known keys; deeds. -/
namespace Sp
open PySem PySem.Spec PyProof.Rows L2
section
variable {κ : Type} [DecidableEq κ]
theorem valV_of : ∀ {kvs : List (κ × V)} {k : κ} {v : V}, (kvs.map (·.1)).Nodup → (k, v) ∈ kvs → valV kvs k = some v
  | [], _, _, _, m => nomatch m
  | (g, x) :: r, k, v, nd, m => by
    have nd' : (g :: r.map (·.1)).Nodup := nd
    obtain ⟨n1, n2⟩ := List.nodup_cons.mp nd'
    rcases List.mem_cons.mp m with e | m2
    · cases e
      exact valV_pos rfl
    · have hne : ¬ g = k := by
        rintro rfl
        exact n1 (List.mem_map.mpr ⟨(g, v), m2, rfl⟩)
      rw [valV_neg hne]
      exact valV_of n2 m2
/-- a value stored under a key that is there -/
inductive KPut (k : κ) (y : V) : List (κ × V) → List (κ × V) → Prop
  | hd {x : V} {r : List (κ × V)} : KPut k y ((k, x) :: r) ((k, y) :: r)
  | tl {g : κ} {x : V} {r r' : List (κ × V)} (h : KPut k y r r') : KPut k y ((g, x) :: r) ((g, x) :: r')
theorem KPut.keys {k : κ} {y : V} {kvs kvs' : List (κ × V)} (h : KPut k y kvs kvs') : kvs'.map (·.1) = kvs.map (·.1) ∧ k ∈ kvs.map (·.1) := by
  induction h with
  | hd => exact ⟨rfl, List.mem_cons_self ..⟩
  | tl _ ih => exact ⟨by rw [List.map_cons, List.map_cons, ih.1], List.mem_cons_of_mem _ ih.2⟩
theorem putK_in {k : κ} {y : V} {kvs : List (κ × V)} (h : k ∈ kvs.map (·.1)) : putK kvs k y = kvs.map (fun kv => if kv.1 = k then (kv.1, y) else kv) := by
  unfold putK
  rw [if_pos]
  obtain ⟨p, hp, e⟩ := List.mem_map.mp h
  exact List.any_eq_true.mpr ⟨p, hp, decide_eq_true e⟩
theorem map_out {k : κ} {y : V} : ∀ {kvs : List (κ × V)}, k ∉ kvs.map (·.1) → kvs.map (fun kv => if kv.1 = k then (kv.1, y) else kv) = kvs
  | [], _ => rfl
  | (g, x) :: r, h => by
    have hne : ¬ g = k := fun e => h (by subst e; exact List.mem_cons_self ..)
    rw [List.map_cons, map_out fun m => h (List.mem_cons_of_mem _ m)]
    simp [hne]
theorem KPut.eq {k : κ} {y : V} {kvs kvs' : List (κ × V)} (h : KPut k y kvs kvs') (nd : (kvs.map (·.1)).Nodup) : putK kvs k y = kvs' := by
  rw [putK_in h.keys.2]
  induction h with
  | @hd x r =>
    have nd' : (k :: r.map (·.1)).Nodup := nd
    rw [List.map_cons, map_out (List.nodup_cons.mp nd').1]
    simp
  | @tl g x r r' h ih =>
    have nd' : (g :: r.map (·.1)).Nodup := nd
    obtain ⟨n1, n2⟩ := List.nodup_cons.mp nd'
    have hne : ¬ g = k := fun e => n1 (by subst e; exact h.keys.2)
    rw [List.map_cons, ih n2]
    simp [hne]
end
section
variable {K : PySem.W.Frag} {ps ps' R : List HP} {Φ : V → List HP → Prop} {a : Addr} {v y : V} {kvs kvs' : List (Key × V)} {z : Str}
theorem dgetS (m : pt a (.dK kvs) ∈ ps) (nd : (kvs.map (·.1)).Nodup) (h : (Sum.inr z, v) ∈ kvs) (k : Φ v ps) : DGetG (.ref a) (.str z) ps Φ :=
  ⟨a, v, rfl, by rw [← valV_of nd h]; exact dgetK (q := Sum.inr z) m rfl, k⟩
theorem dputS {k : List HP → Prop} (nd : (kvs.map (·.1)).Nodup) (h : KPut (Sum.inr z) v kvs kvs') (m0 : pt a (.dK kvs) ∈ ps) (m : Rep (pt a (.dK kvs)) (pt a (.dK kvs')) ps ps') (l : kvs.length < sizeLine) (q : k ps') : DPutG (.ref a) (.str z) v ps k := by
  have e := h.eq nd
  exact dputK (q := Sum.inr z) (kvs := kvs) rfl (by rw [e]; exact m) l q
theorem wp_nil {σ : L2.St} {Φ : List (V × V) → List HP → Prop} (k : Φ [] ps) : Wp [] σ ps Φ := k
theorem wp_cons {tk tv : TE} {r : List (TE × TE)} {σ : L2.St} {Φ : List (V × V) → List HP → Prop} (h : We tk σ ps fun x ps1 => We tv σ ps1 fun y ps2 => Wp r σ ps2 fun l ps3 => Φ ((x, y) :: l) ps3) : Wp ((tk, tv) :: r) σ ps Φ := h
/-- the pairs of a display as a dict's -/
inductive KVs : List (V × V) → List (Key × V) → Prop
  | nil : KVs [] []
  | str {z : Str} {v : V} {l : List (V × V)} {kvs : List (Key × V)} (h : KVs l kvs) : KVs ((.str z, v) :: l) ((Sum.inr z, v) :: kvs)
  | int {i : Int} {v : V} {l : List (V × V)} {kvs : List (Key × V)} (h : KVs l kvs) : KVs ((.int i, v) :: l) ((Sum.inl i, v) :: kvs)
theorem KVs.eq {l : List (V × V)} {kvs : List (Key × V)} (h : KVs l kvs) : l = kvs.map fun kv => (kV kv.1, kv.2) := by
  induction h with
  | nil => rfl
  | str _ ih => rw [ih]; rfl
  | int _ ih => rw [ih]; rfl
theorem mergeK_nd {kvs : List (Key × V)} : ∀ {acc : List (Key × V)}, ((acc ++ kvs).map (·.1)).Nodup → mergeK acc kvs = acc ++ kvs := by
  induction kvs with
  | nil => intro acc _; simp [mergeK]
  | cons p r ih =>
    intro acc nd
    have hn : valV acc p.1 = none := by
      cases e : valV acc p.1 with
      | none => rfl
      | some v =>
        have m := valV_in e
        rw [List.map_append, List.nodup_append] at nd
        exact absurd rfl (nd.2.2 p.1 m p.1 (by simp))
    have e1 : mergeK acc (p :: r) = mergeK (acc ++ [p]) r := by
      show mergeK (putK acc p.1 p.2) r = _
      rw [putK_new p.2 hn]
    rw [e1, ih (by simpa using nd)]
    simp
theorem we_dispS {trs : List (TE × TE)} {σ : L2.St} (h : ∀ p, Wp trs σ (pt p (.dK []) :: ps) fun l ps1 => ∃ (kvs : List (Key × V)) (ps2 : List HP), KVs l kvs ∧ (kvs.map (·.1)).Nodup ∧ kvs.length ≤ 15 ∧ Rep (pt p (.dK [])) (pt p (.dK kvs)) ps1 ps2 ∧ Φ (.ref p) ps2) : We (tDisp trs) σ ps Φ := by
  intro H Q s q p hp
  refine wp_run (h p) _ _ (s.new hp) fun l ps1 H1 ⟨kvs, ps2, e, nd, hl, m, k⟩ s1 => ⟨s1.get m.mem, kvs, e.eq, hl, ?_⟩
  have e1 : mergeK [] kvs = kvs := by
    rw [mergeK_nd (by simpa using nd)]; rfl
  rw [e1]
  exact q _ _ _ k (s1.rep m)
/-- the end of a display -/
def DispG (p : Addr) (l : List (V × V)) (ps1 : List HP) (k : List HP → Prop) : Prop := ∃ (kvs : List (Key × V)) (ps2 : List HP), KVs l kvs ∧ (kvs.map (·.1)).Nodup ∧ kvs.length ≤ 15 ∧ Rep (pt p (.dK [])) (pt p (.dK kvs)) ps1 ps2 ∧ k ps2
theorem dispG {p : Addr} {l : List (V × V)} {ps1 ps2 : List HP} {k : List HP → Prop} {kvs : List (Key × V)} (e : KVs l kvs) (nd : (kvs.map (·.1)).Nodup) (hl : kvs.length ≤ 15) (m : Rep (pt p (.dK [])) (pt p (.dK kvs)) ps1 ps2) (h : k ps2) : DispG p l ps1 k := ⟨kvs, ps2, e, nd, hl, m, h⟩
theorem we_dispG {trs : List (TE × TE)} {σ : L2.St} (h : ∀ p, Wp trs σ (pt p (.dK []) :: ps) fun l ps1 => DispG p l ps1 (Φ (.ref p))) : We (tDisp trs) σ ps Φ := we_dispS h
end
/-! ### deeds -/
inductive Deed where
  | one | count | set (n : Nat) | look | add (n : Nat) | sum | raise (n : Nat) | top | give (n : Nat) | take
  deriving DecidableEq
def Deed.word : Deed → Str
  | .one => "one" | .count => "count" | .set _ => "set" | .look => "look" | .add _ => "add" | .sum => "sum" | .raise _ => "raise" | .top => "top" | .give _ => "give" | .take => "take"
def Deed.vals : Deed → List V
  | .one => [.str "one"] | .count => [.str "count"] | .set n => [.str "set", .int n] | .look => [.str "look"] | .add n => [.str "add", .int n] | .sum => [.str "sum"]
  | .raise n => [.str "raise", .int n] | .top => [.str "top"] | .give n => [.str "give", .int n] | .take => [.str "take"]
/-- numbers are below a thousand -/
def Deed.ok : Deed → Prop
  | .set n => n < 1000 | .add n => n < 1000 | .raise n => n < 1000 | .give n => n < 1000 | _ => True
/-- the words, by name -/
inductive Wd where
  | one | count | set | look | add | sum | raise | top | give | take
  deriving DecidableEq
def Wd.str : Wd → Str
  | .one => "one" | .count => "count" | .set => "set" | .look => "look" | .add => "add" | .sum => "sum" | .raise => "raise" | .top => "top" | .give => "give" | .take => "take"
def Deed.wd : Deed → Wd
  | .one => .one | .count => .count | .set _ => .set | .look => .look | .add _ => .add | .sum => .sum | .raise _ => .raise | .top => .top | .give _ => .give | .take => .take
theorem Deed.vals_ne (d : Deed) : d.vals ≠ [] := by cases d <;> exact fun h => nomatch h
theorem Deed.vals0 (d : Deed) : d.vals[0]? = some (.str d.wd.str) := by cases d <;> rfl
end Sp
namespace Sp
open PySem PySem.Spec PyProof.Rows L2
inductive Drops : List HP → List HP → Prop
  | refl {R : List HP} : Drops R R
  | tl {c : HP} {r R : List HP} (h : Drops r R) : Drops (c :: r) R
theorem Drops.ent {a b : List HP} (h : Drops a b) : Ent a b := by
  induction h with
  | refl => exact Ent.rf
  | tl _ ih => exact Ent.drop.trans ih
/-- what is wanted is there (the rest may go) -/
def Keep (ps t : List HP) : Prop := Ent ps t
theorem Keep.nil {ps : List HP} : Keep ps [] := fun H _ => Sat.nil
theorem Keep.rest {ps R : List HP} (h : Drops ps R) : Keep ps R := h.ent
theorem Keep.cons {c : HP} {ps R1 t : List HP} (h : Pick c ps R1) (k : Keep R1 t) : Keep ps (c :: t) := (Ent.perm h.perm).trans (Ent.cons k)
theorem Keep.fold {ps qs ts : List HP} (e : Ent qs ts) (k : Keep ps qs) : Keep ps ts := Ent.trans k e
theorem Ent.keep {ps t : List HP} (h : Keep ps t) : Ent ps t := h
end Sp

set_option Elab.async false
set_option linter.all false
set_option maxRecDepth 100000
set_option maxHeartbeats 4000000
/-! Lists of whole numbers; answers; the things done at once. -/
namespace Sp
open PySem PySem.Spec PyProof.Rows L2
section
variable {K : PySem.W.Frag} {ps ps' R : List HP} {Φ : V → List HP → Prop} {a b : Addr} {ns ms : List Int} {i x : Int}
theorem w2_ixI (h : RdL K ps a (ns.map V.int)) (g : 0 ≤ i ∧ i < (ns.length : Int)) (k : Φ (.int (ns.getD i.toNat 0)) ps) : W2 (rIxL K) (.ref a) (.int i) ps Φ := by
  obtain ⟨j, rfl⟩ : ∃ j : Nat, i = j := ⟨i.toNat, (Int.toNat_of_nonneg g.1).symm⟩
  rw [Int.toNat_natCast] at k
  exact w2_ixL h (atI_nat (j := j) (map_at (getD_lt (by omega)))) k
theorem wst_LI {Ψ : List HP → Prop} (m : Rep (pt a (.lst (ns.map V.int))) (pt a (.lst ((ns.set i.toNat x).map V.int))) ps ps') (g : 0 ≤ i ∧ i < (ns.length : Int)) (k : Ψ ps') : Wst rSetL (.ref a) (.int i) (.int x) ps Ψ := by
  rw [List.map_set] at m
  exact wst_Lz m g.1 (by rw [List.length_map]; omega) k
theorem wm_appendI (m : Rep (pt a (.lst (ns.map V.int))) (pt a (.lst ((ns ++ [x]).map V.int))) ps ps') (l : ns.length < sizeLine) (k : Φ .non ps') : Wm rAppend (.ref a) [.int x] ps Φ := by
  rw [← snocI] at m
  exact wm_append m (by rw [List.length_map]; exact l) k
theorem wm_pop0I (m : Rep (pt a (.lst ((x :: ns).map V.int))) (pt a (.lst (ns.map V.int))) ps ps') (k : Φ (.int x) ps') : Wm rPopAt (.ref a) [.int 0] ps Φ :=
  wm_popAt (n := 0) (y := .int x) (xs := (x :: ns).map V.int) m rfl rfl (by decide) k
theorem w2_repI {n : Int} (m : pt a (.lst [.int x]) ∈ ps) (h : 0 ≤ n ∧ n ≤ 1000000) (k : ∀ p, Φ (.ref p) (pt p (.lst ((List.replicate n.toNat x).map V.int)) :: ps)) : W2 rRep (.ref a) (.int n) ps Φ := by
  refine w2_rep m (by omega) (by omega) ?_ fun p => ?_
  · have : sizeLine ≥ 1000000 := by decide
    simp only [List.length_cons, List.length_nil]; omega
  · have e : (List.replicate n.toNat [V.int x]).flatten = (List.replicate n.toNat x).map V.int := by
      rw [List.map_replicate]
      induction n.toNat with
      | zero => rfl
      | succ j ih => rw [List.replicate_succ, List.flatten_cons, ih, List.replicate_succ]; rfl
    rw [e]; exact k p
theorem w2_eqNil (h : RdL K ps a (ns.map V.int)) (g : RdL K ps b []) (k : Φ (.bl (decide (ns = []))) ps) : W2 (rEqD K) (.ref a) (.ref b) ps Φ :=
  w2_eqD (rdd_ints h) (rdd_ints (ns := []) g) (by rw [eqv_ints]; exact k)
theorem w2_neNil (h : RdL K ps a (ns.map V.int)) (g : RdL K ps b []) (k : Φ (.bl (!decide (ns = []))) ps) : W2 (rNeD K) (.ref a) (.ref b) ps Φ :=
  w2_neD (rdd_ints h) (rdd_ints (ns := []) g) (by rw [eqv_ints]; exact k)
theorem w2_ixM {α : Type} {K : PySem.W.Frag} {ps : List HP} {Φ : V → List HP → Prop} {a : Addr} {f : α → V} {xs : List α} {i : Int} (h : RdL K ps a (xs.map f)) (g : 0 ≤ i ∧ i < (xs.length : Int)) (k : ∀ x, xs[i.toNat]? = some x → Φ (f x) ps) : W2 (rIxL K) (.ref a) (.int i) ps Φ := by
  obtain ⟨j, rfl⟩ : ∃ j : Nat, i = j := ⟨i.toNat, (Int.toNat_of_nonneg g.1).symm⟩
  have hj : j < xs.length := by omega
  exact w2_ixL h (atI_nat (j := j) (map_at (List.getElem?_eq_getElem hj))) (k _ (by rw [Int.toNat_natCast]; exact List.getElem?_eq_getElem hj))
theorem cmul_if2 {c : Bool} {j : Int} : CMul j (if c = true then 1 else 0) := by
  cases c
  · exact Or.inr ⟨by decide, by decide⟩
  · exact Or.inr ⟨by decide, by decide⟩
def wds : List Wd := [.one, .count, .set, .look, .add, .sum, .raise, .top, .give, .take]
/-- the greatest of a row -/
def topOf (l : List Int) : Int := (l.max?).getD 0
theorem topOf_eq {l : List Int} {m : Int} (h1 : m ∈ l) (h2 : ∀ y, y ∈ l → y ≤ m) : topOf l = m := by
  unfold topOf
  rw [List.max?_eq_some_iff.mpr ⟨h1, h2⟩]; rfl
theorem wc_topI (h : RdL K ps a (ns.map V.int)) (l : 0 < ns.length) (k : Φ (.int (topOf ns)) ps) : Wc (rMax K) [.ref a] ps Φ :=
  wc_max h l fun m h1 h2 => by rw [← topOf_eq h1 h2]; exact k
end
section
variable {K : PySem.W.Frag} {tr : TA} {σ : L2.St} {ps : List HP}
def srcZT (K : PySem.W.Frag) (a b : Addr) (xs ys : List V) : Src := ⟨min xs.length ys.length, fun ps => RdT K ps a xs ∧ RdT K ps b ys, fun i x ex => ∃ p y z, xs[i]? = some y ∧ ys[i]? = some z ∧ x = .ref p ∧ ex = [pt p (.tup [y, z])]⟩
theorem wi_ZT {Φ : Src → List HP → Prop} (h : Wa tr σ ps fun vs ps1 => ∃ a b xs ys, vs = [.ref a, .ref b] ∧ RdT K ps1 a xs ∧ RdT K ps1 b ys ∧ Φ (srcZT K a b xs ys) ps1) : Wi (RZ.iZipA K tr) σ ps Φ := fun H R s q =>
  h H _ s fun vs ps1 H1 ⟨a, b, xs, ys, e, rd, rd2, k⟩ s1 => ⟨a, b, xs, ys, e, .inr ⟨rd.at' s1, rd2.at' s1, q (srcZT K a b xs ys) _ ps1 H1 ⟨fun i ps H r s hi => by
    have hi : i < min xs.length ys.length := hi
    have h1 : i < xs.length := by omega
    have h2 : i < ys.length := by omega
    refine ⟨⟨xs, ys, xs[i], ys[i], RdT.at' r.1 s, RdT.at' r.2 s, List.getElem?_eq_getElem h1, List.getElem?_eq_getElem h2⟩, ?_⟩
    rintro v H' ⟨T, x, y, rfl, hT, rfl, hx, hy⟩
    exact ⟨[pt T (.tup [x, y])], ⟨T, x, y, hx xs (RdT.at' r.1 s), hy ys (RdT.at' r.2 s), rfl, rfl⟩, s.new hT⟩, fun ps H r s => by
    refine ⟨xs, ys, RdT.at' r.1 s, RdT.at' r.2 s, ?_⟩
    show xs.length ≤ min xs.length ys.length ∨ ys.length ≤ min xs.length ys.length
    omega⟩ k s1⟩⟩
end
section
variable {ps : List HP} {Φ : V → List HP → Prop} {i j : Int}
theorem dec_int : decide (V.int i = V.int j) = decide (i = j) := by
  by_cases h : i = j
  · subst h; simp
  · simp [h]
theorem w2_eqI (k : Φ (.bl (decide (i = j))) ps) : W2 rEq (.int i) (.int j) ps Φ := w2_eq rfl (by rw [dec_int]; exact k)
theorem w2_neI (k : Φ (.bl (!decide (i = j))) ps) : W2 rNe (.int i) (.int j) ps Φ := w2_ne rfl (by rw [dec_int]; exact k)
end
theorem w2_eqDI {K : PySem.W.Frag} {ps : List HP} {Φ : V → List HP → Prop} {i j : Int} (k : Φ (.bl (decide (i = j))) ps) : W2 (rEqD K) (.int i) (.int j) ps Φ := w2_eqD rdd_int rdd_int (by
  have e : PyData.eqv (.int i) (.int j) = decide (i = j) := by by_cases h : i = j <;> simp [PyData.eqv, h]
  rw [e]; exact k)
theorem w2_neDI {K : PySem.W.Frag} {ps : List HP} {Φ : V → List HP → Prop} {i j : Int} (k : Φ (.bl (!decide (i = j))) ps) : W2 (rNeD K) (.int i) (.int j) ps Φ := w2_neD rdd_int rdd_int (by
  have e : PyData.eqv (.int i) (.int j) = decide (i = j) := by by_cases h : i = j <;> simp [PyData.eqv, h]
  rw [e]; exact k)
theorem iteFd {c : Prop} [Decidable c] {A B : Prop} (h : ¬ c) (k : B) : if decide c = true then A else B := iteD (fun z => absurd z h) fun _ => k
theorem iteTd {c : Prop} [Decidable c] {A B : Prop} (h : c) (k : A) : if decide c = true then A else B := iteD (fun _ => k) fun z => absurd h z
theorem iteNFd {c : Prop} [Decidable c] {A B : Prop} (h : ¬ c) (k : A) : if (!decide c) = true then A else B := iteND (fun _ => k) fun z => absurd z h
theorem iteNTd {c : Prop} [Decidable c] {A B : Prop} (h : c) (k : B) : if (!decide c) = true then A else B := iteND (fun z => absurd h z) fun _ => k
/-! ### answers -/
inductive Ans where
  | non | int (i : Int) | view (l : List Int)
  deriving DecidableEq
@[irreducible] def ansC (v : V) : Ans → HP
  | .non => pur (v = .non)
  | .int i => pur (v = .int i)
  | .view l => exh fun p => grp [pur (v = .ref p), pt p (.tup (l.map V.int))]
section
variable {ts : TS} {nx : PN} {rt : V → List HP → Prop} {bk ct : PN} {σ : L2.St} {v : V} {ps R : List HP} {an : Ans} {p : Addr} {l : List Int} {i : Int}
theorem ansN : Ent R (ansC .non .non :: R) := fun H s => by unfold ansC; exact Sat.pur.mpr ⟨rfl, s⟩
theorem ansI : Ent R (ansC (.int i) (.int i) :: R) := fun H s => by unfold ansC; exact Sat.pur.mpr ⟨rfl, s⟩
theorem ansT : Ent (pt p (.tup (l.map V.int)) :: R) (ansC (.ref p) (.view l) :: R) := fun H s => by
  unfold ansC
  exact Sat.ex.mpr ⟨p, Sat.grp.mpr (Sat.pur.mpr ⟨rfl, s⟩)⟩
theorem Ws.ans (h0 : an = .non → v = .non → Ws ts nx rt bk ct σ ps) (h1 : ∀ i, an = .int i → v = .int i → Ws ts nx rt bk ct σ ps) (h2 : ∀ l p, an = .view l → v = .ref p → Ws ts nx rt bk ct σ (pt p (.tup (l.map V.int)) :: ps)) : Ws ts nx rt bk ct σ (ansC v an :: ps) := by
  cases an with
  | non => unfold ansC; exact Ws.pur fun e => h0 rfl e
  | int i => unfold ansC; exact Ws.pur fun e => h1 i rfl e
  | view l => unfold ansC; exact Ws.ex fun p => Ws.grp (Ws.pur fun e => h2 l p rfl e)
end
/-! ### the things, done at once -/
structure Pst where
  ones : Int
  cells : List Int
  sums : List Int
  tops : List Int
  line : List Int
def Pst.new (m : Nat) : Pst := ⟨0, List.replicate m 0, List.replicate m 0, List.replicate m 0, []⟩
def Pst.wf (s : Pst) (m : Nat) : Prop := s.cells.length = m ∧ s.sums.length = m ∧ s.tops.length = m
def Pst.done (s : Pst) (h : Int) : Deed → Pst
  | .one => ⟨s.ones + 1, s.cells, s.sums, s.tops, s.line⟩
  | .set n => ⟨s.ones, s.cells.set h.toNat n, s.sums, s.tops, s.line⟩
  | .add n => ⟨s.ones, s.cells, s.sums.set h.toNat (s.sums.getD h.toNat 0 + n), s.tops, s.line⟩
  | .raise n => ⟨s.ones, s.cells, s.sums, s.tops.set h.toNat (max (s.tops.getD h.toNat 0) n), s.line⟩
  | .give n => ⟨s.ones, s.cells, s.sums, s.tops, s.line ++ [(n : Int)]⟩
  | .take => ⟨s.ones, s.cells, s.sums, s.tops, s.line.tail⟩
  | _ => s
def Pst.ans (s : Pst) : Deed → Ans
  | .count => .int s.ones
  | .look => .view s.cells
  | .sum => .int s.sums.sum
  | .top => .int (topOf s.tops)
  | .take => match s.line with | [] => .non | x :: _ => .int x
  | _ => .non
def Deed.changes : Deed → Prop
  | .one => True | .set _ => True | .add _ => True | .raise _ => True | .give _ => True | _ => False
instance (d : Deed) : Decidable d.changes := by cases d <;> unfold Deed.changes <;> infer_instance
theorem Pst.new_wf (m : Nat) : (Pst.new m).wf m := by simp [Pst.wf, Pst.new]
theorem Pst.done_wf {s : Pst} {m : Nat} {h : Int} {d : Deed} (w : s.wf m) : (s.done h d).wf m := by
  cases d <;> simpa [Pst.wf, Pst.done] using w
theorem Pst.done_line {s : Pst} {h : Int} {d : Deed} : (s.done h d).line.length ≤ s.line.length + 1 := by
  cases d <;> simp [Pst.done]; omega
/-- an object of class Plain -/
@[irreducible] def plainC {K : PySem.W.Frag} {names : List Str} (I : CI K names) (a : Addr) (m : Nat) (s : Pst) : HP :=
  exh fun q : Addr × Addr × Addr × Addr => grp [obj I a [("many", .int m), ("counted", .int s.ones), ("cells", .ref q.1), ("sums", .ref q.2.1), ("tops", .ref q.2.2.1), ("line", .ref q.2.2.2)],
    pt q.1 (.lst (s.cells.map V.int)), pt q.2.1 (.lst (s.sums.map V.int)), pt q.2.2.1 (.lst (s.tops.map V.int)), pt q.2.2.2 (.lst (s.line.map V.int))]
/-- the law's own: a dict -/
@[irreducible] def dictC (a : Addr) (s : Pst) : HP :=
  exh fun q : Addr × Addr × Addr × Addr => grp [pt a (.dK [(Sum.inr "ones", .int s.ones), (Sum.inr "set", .ref q.1), (Sum.inr "add", .ref q.2.1), (Sum.inr "raise", .ref q.2.2.1), (Sum.inr "line", .ref q.2.2.2)]),
    pt q.1 (.lst (s.cells.map V.int)), pt q.2.1 (.lst (s.sums.map V.int)), pt q.2.2.1 (.lst (s.tops.map V.int)), pt q.2.2.2 (.lst (s.line.map V.int))]
section
variable {K : PySem.W.Frag} {names : List Str} {I : CI K names} {ts : TS} {nx : PN} {rt : V → List HP → Prop} {bk ct : PN} {σ : L2.St} {ps R : List HP} {a q1 q2 q3 q4 : Addr} {m : Nat} {s : Pst}
theorem Ws.plainC (h : ∀ q1 q2 q3 q4, Ws ts nx rt bk ct σ (obj I a [("many", .int m), ("counted", .int s.ones), ("cells", .ref q1), ("sums", .ref q2), ("tops", .ref q3), ("line", .ref q4)] ::
    pt q1 (.lst (s.cells.map V.int)) :: pt q2 (.lst (s.sums.map V.int)) :: pt q3 (.lst (s.tops.map V.int)) :: pt q4 (.lst (s.line.map V.int)) :: ps)) : Ws ts nx rt bk ct σ (Sp.plainC I a m s :: ps) := by
  unfold Sp.plainC
  exact Ws.ex fun q => Ws.grp (h q.1 q.2.1 q.2.2.1 q.2.2.2)
theorem Ent.plainC {o : Int} {cs ss tt l : List Int} : Ent (obj I a [("many", .int m), ("counted", .int o), ("cells", .ref q1), ("sums", .ref q2), ("tops", .ref q3), ("line", .ref q4)] ::
    pt q1 (.lst (cs.map V.int)) :: pt q2 (.lst (ss.map V.int)) :: pt q3 (.lst (tt.map V.int)) :: pt q4 (.lst (l.map V.int)) :: R) (Sp.plainC I a m ⟨o, cs, ss, tt, l⟩ :: R) := fun H z => by
  unfold Sp.plainC
  exact Sat.ex.mpr ⟨(q1, q2, q3, q4), Sat.grp.mpr z⟩
theorem methPlain {f : Str} {k : List HP → Prop} (h : Sp.plainC I a m s ∈ ps) (p : (["many", "counted", "cells", "sums", "tops", "line"] : List Str) = names) (n : f ∉ names) (q : k ps) : MethG I.C f (.ref a) ps k :=
  methC h (fun H R z => by
    unfold Sp.plainC at z
    obtain ⟨x, z⟩ := Sat.ex.mp z
    obtain ⟨dx, e⟩ := (Sat.grp.mp z).obj (List.mem_cons_self ..)
    exact ⟨dx, _, e, lookup_not fun y => n (by rw [← p]; exact y)⟩) q
theorem Ws.dictC (h : ∀ q1 q2 q3 q4, Ws ts nx rt bk ct σ (pt a (.dK [(Sum.inr "ones", .int s.ones), (Sum.inr "set", .ref q1), (Sum.inr "add", .ref q2), (Sum.inr "raise", .ref q3), (Sum.inr "line", .ref q4)]) ::
    pt q1 (.lst (s.cells.map V.int)) :: pt q2 (.lst (s.sums.map V.int)) :: pt q3 (.lst (s.tops.map V.int)) :: pt q4 (.lst (s.line.map V.int)) :: ps)) : Ws ts nx rt bk ct σ (Sp.dictC a s :: ps) := by
  unfold Sp.dictC
  exact Ws.ex fun q => Ws.grp (h q.1 q.2.1 q.2.2.1 q.2.2.2)
theorem Ent.dictC {o : Int} {cs ss tt l : List Int} : Ent (pt a (.dK [(Sum.inr "ones", .int o), (Sum.inr "set", .ref q1), (Sum.inr "add", .ref q2), (Sum.inr "raise", .ref q3), (Sum.inr "line", .ref q4)]) ::
    pt q1 (.lst (cs.map V.int)) :: pt q2 (.lst (ss.map V.int)) :: pt q3 (.lst (tt.map V.int)) :: pt q4 (.lst (l.map V.int)) :: R) (Sp.dictC a ⟨o, cs, ss, tt, l⟩ :: R) := fun H z => by
  unfold Sp.dictC
  exact Sat.ex.mpr ⟨(q1, q2, q3, q4), Sat.grp.mpr z⟩
end
end Sp

set_option Elab.async false
set_option linter.all false
set_option maxRecDepth 100000
set_option maxHeartbeats 4000000
/-! Exceptions: calls that may raise, try .. except X as n, isinstance of what is caught. -/
namespace Sp
open PySem PySem.Spec PyProof.Rows L2
/-- o.m(e, ..): what it raises is wished for at the slots as they stand -/
def tMethS (C : Addr) (m : Str) (sp : L2.Sp) (E : L2.St → XK) (ta : TE) (t : TA) : TE := fun σ H Q => ta σ H fun x H1 => ∃ a dx fs, x = .ref a ∧ H1 a = some (.ins C dx fs) ∧ fs.lookup m = none ∧ t σ H1 fun vs H2 => sp (x :: vs) H2 Q (E σ)
theorem pe_methS {X : Cx} {CX : CXT} {k : Nat} {f C : Addr} {fd : FuncData} {ps : List Str} {sp : L2.Sp} {E : L2.St → XK} {m : Str} {pos apos : Pos} {e o : Expr} {es : List Expr} {ta : TE} {t : TA} {pl : Sem Bool} (he : PE X o ta) (c : Cls X.K C) (hm : Meth X.K C m f)
    (F : FnOk X.prog X.w X.K X.mg X.base CX k f fd ps sp) (hr : Room k X.A) (hb : Binds X.K fd ps []) (hx : ∀ σ, PassesAt CX X σ (E σ)) (ha : PA X (e :: es) t)
    (hst : starEach (e :: es) X.env = (false, eval e X.env) :: starEach es X.env := by rfl) (hpl : (backTo pos (starEach es X.env)).any (·.1) = false := by rfl)
    (ht : eval (.Call (.Attribute o m apos) (e :: es) [] pos) X.env = (do
      let ov ← eval o X.env
      standAt apos.atName
      let (f, first) ← holding [ov] (getMethod ov m pl)
      callWith pos f first (backTo pos (starEach (e :: es) X.env)) (backToKw pos (keywordEach [] X.env))) := by rfl) :
    PE X (.Call (.Attribute o m apos) (e :: es) [] pos) (tMethS C m sp E ta t) := by
  refine ⟨fun pins s σ H Q I h => ?_⟩
  refine PySem.W.methodCall_KW (pl := pl) (thn (he.run pins s σ H _ I h) fun u s1 ⟨x, H1, I1, rx, a, dx, fs, ex, ea, l, q⟩ => ?_) ht
  subst ex
  obtain rfl : u = Value.ref a := rx
  refine getmeth_ok I1 ea c hm l ?_
  refine PySem.W.callWith_K (first := [.ref a]) (h₀ := X.base) I.ok.mod.kin hm.kp (thn (ha.run pos pins s1 σ H1 _ I1 q) fun us s2 ⟨vs, H2, I2, r, q2⟩ => ⟨I2.kIn, ?_⟩) hst hpl
  exact run_fnS (us := .ref a :: us) (vs := .ref a :: vs) F hr hb (hx σ) I2 (.cons rfl r) q2
/-- C(e, ..) -/
def tMakeS (C : Addr) (sp : L2.Sp) (E : L2.St → XK) (t : TA) : TE := fun σ H Q => t σ H fun vs H1 => ∀ x dx, H1 x = none → H1 dx = none → dx ≠ x → sp (.ref x :: vs) (upd (upd H1 dx (.own x)) x (.ins C dx [])) (fun v H2 => v = .non ∧ Q (.ref x) H2) (E σ)
theorem pe_makeS {X : Cx} {CX : CXT} {k : Nat} {f C : Addr} {fd : FuncData} {ps : List Str} {sp : L2.Sp} {E : L2.St → XK} {x : Str} {p pos : Pos} {e : Expr} {es : List Expr} {t : TA} (M : Mk X.K C f) (F : FnOk X.prog X.w X.K X.mg X.base CX k f fd ps sp) (hr : Room (k + 1) X.A) (hg : Gl X x) (hm : X.mg x = some (.ref C)) (hb : Binds X.K fd ps []) (hx : ∀ σ, PassesAt CX X σ (E σ))
    (ha : PA X (e :: es) t) (hdb : (x == ("__debug__" : Str)) = false := by decide) (he : starEach (e :: es) X.env = (false, eval e X.env) :: starEach es X.env := by rfl) (hpl : (backTo pos (starEach es X.env)).any (·.1) = false := by rfl) :
    PE X (.Call (.Name x p) (e :: es) [] pos) (tMakeS C sp E t) := by
  refine ⟨fun pins s σ H Q I h => ?_⟩
  refine wpAny_Call_Name_kw (ld_glob I hg hm ?_ hdb)
  refine PySem.W.callWith_K (h₀ := X.base) I.ok.mod.kin M.kp (thn (ha.run pos pins s σ H _ I h) fun us s1 ⟨vs, H1, I1, r, h⟩ => ⟨I1.kIn, ?_⟩) he hpl
  have hq := h (s1.heap.objs.size + 1) s1.heap.objs.size (I1.hok.fresh (Nat.le_succ _)) (I1.hok.fresh (Nat.le_refl _)) (Nat.ne_of_lt (Nat.lt_succ_self _))
  have I2 := Inv.made (C := C) I1
  have r2 : Vals (V.ref (s1.heap.objs.size + 1) :: vs) (Value.ref (s1.heap.objs.size + 1) :: us) := .cons rfl r
  have hl : (Value.ref (s1.heap.objs.size + 1) :: us).length = ps.length := by
    have e := r2.length
    rw [F.len _ _ _ _ hq] at e
    exact e.symm
  have b := hb _ (Value.ref (s1.heap.objs.size + 1) :: us) I2.kIn (by rw [List.append_nil]; exact hl)
  rw [List.append_nil] at b
  refine wpAny_call (make_map (f := f) I1.kIn M.makes M.init (beq_iff_eq.mp M.fn) (codeAny_mono (F.run _ X.stack _ _ ⟨Value.ref (s1.heap.objs.size + 1) :: us, []⟩ (Value.ref (s1.heap.objs.size + 1) :: us) _ _ (E σ) (hr.make C us [])
    (I2.env0.make C us []) b r2 hq) fun r s' hq' => ?_))
  cases r with
  | error e => exact hx σ pins _ _ e s' I2 hq'
  | ok fl =>
    cases fl with
    | ret u =>
      obtain ⟨v, H', I3, rv, ev, q3⟩ := I2.after hq'
      subst ev
      exact ⟨rv, ⟨V.ref (s1.heap.objs.size + 1), H', I3, rfl, q3⟩⟩
    | next => exact False.elim hq'
    | brk => exact False.elim hq'
    | cont => exact False.elim hq'
/-- isinstance(e, (T, ..)) of what is caught -/
def rIsET (K : PySem.W.Frag) (D a : Addr) : List V → Hp → VK → Prop := fun xs H Q => ∃ (t : Addr) (cs : List V) (cvs : List Value) (b : Bool), xs = [.ref a, .ref t] ∧ SqT K H t cs ∧ (∀ us, Vals cs us → us = cvs) ∧ PySem.W.kitAny K (.ref D) cvs = some b ∧ Q (.bl b) H
theorem call_isET {X : Cx} {a D : Addr} {oe : Obj} {pn : List (Addr × Obj)} (C : ExcC X.K D) (hz : Zc (.ref D) none oe) (hf : ∃ vs, oe.data = .fields vs) : CallR (X.suite a ((a, oe) :: pn)) (.builtin "isinstance") (rIsET X.K D a) := by
  intro pins s σ H xs us Q I r h
  obtain ⟨t, cs, cvs, b, rfl, ht, hcv, e, q⟩ := h
  cases r with
  | cons rx rr =>
    cases rr with
    | cons rt rr =>
      cases rr
      cases rx
      cases rt
      obtain ⟨its, rv, p, _⟩ := I.tuple ht
      have ec := hcv _ rv
      subst ec
      obtain ⟨hget, _⟩ := I.pin (a, oe) (List.mem_append.mpr (.inl List.mem_cons_self))
      obtain ⟨vs, hv⟩ := hf
      have J : PySem.W.InstAt s.heap a oe D none := by
        obtain ⟨oc, od, oda, osl⟩ := oe
        obtain ⟨h1, h2⟩ := hz
        dsimp only at h1 h2 hv
        subst h1 h2 hv
        exact ⟨hget, rfl, rfl, trivial⟩
      obtain ⟨ot, hot, hc, n, hd⟩ := p
      obtain ⟨tc, td, tda, tsl⟩ := ot
      dsimp only at hc hd
      subst hc hd
      exact PySem.W.kia_tup (PySem.W.handS_kitx_exc C.hg C.hk C.hs C.hd C.ha C.hn C.ht C.hm) I.kIn J hot e (fun z => nomatch z) fun tk => ⟨.bl b, H, I.kept (t' := tk) fun _ _ z => z, rfl, q⟩
/-- the tries, their parts in sight -/
def tTryAs (K : PySem.W.Frag) (c : Value) (i : Nat) (tb : WX → TS) (ts : Addr → Value → Option Addr → TS) : TS := fun D σ H => tb (wAs K c i ts (fun _ _ _ _ => False) D) D σ H
def tTryOnly (K : PySem.W.Frag) (c : Value) (tb : WX → TS) (ts : Addr → Value → Option Addr → TS) : TS := fun D σ H => tb (wOnly K c ts (fun _ _ _ _ => False) D) D σ H
section
variable {X : Cx} {x n : Str} {c : Value} {i : Nat} {body suite : List Stmt} {b₀ : Stmt} {np pos pos' : Pos} {tb : WX → TS} {ts : Addr → Value → Option Addr → TS}
theorem ps_try_asT (hs : X.stack = X.env :: X.outer) (hf : X.env.frame = some X.env.locals) (hN : X.N.Nodup) (hi : X.N[i]? = some n) (hln : X.env.kindOf n = some .local) (hc : Names X x c)
    (hb : ∀ (W : WX) (pn : List (Addr × Obj)) (xe : Value → Shared → Prop), Takes (X.tr pn xe) W → PassesOwn (model X.prog X.w) X.A X.env xe → PSs (X.tr pn xe) body (tb W))
    (hsu : ∀ (a : Addr) (oe : Obj) (cls : Value) (d : Option Addr) (pn : List (Addr × Obj)), Zc cls d oe → (∃ vs, oe.data = .fields vs) → PSs (X.suite a ((a, oe) :: pn)) (b₀ :: suite) (ts a cls d)) :
    PS X (.Try body [.ExceptHandler (some (.Name x np)) (some n) (b₀ :: suite) pos'] [] [] pos) (tTryAs X.K c i tb ts) := ps_try_as hs hf hN hi hln hc takes0 hb hsu
theorem ps_try_onlyT (hs : X.stack = X.env :: X.outer) (hf : X.env.frame = some X.env.locals) (hc : Names X x c)
    (hb : ∀ (W : WX) (pn : List (Addr × Obj)) (xe : Value → Shared → Prop), Takes (X.tr pn xe) W → PassesOwn (model X.prog X.w) X.A X.env xe → PSs (X.tr pn xe) body (tb W))
    (hsu : ∀ (a : Addr) (oe : Obj) (cls : Value) (d : Option Addr) (pn : List (Addr × Obj)), Zc cls d oe → (∃ vs, oe.data = .fields vs) → PSs (X.suite a ((a, oe) :: pn)) (b₀ :: suite) (ts a cls d)) :
    PS X (.Try body [.ExceptHandler (some (.Name x np)) none (b₀ :: suite) pos'] [] [] pos) (tTryOnly X.K c tb ts) := ps_try_only hs hf hc takes0 hb hsu
end
def tWhen (φ : Prop) (t : TS) : TS := fun D σ H => φ ∧ t D σ H
/-- a block whose reading hangs on what is known -/
theorem pss_when {X : Cx} {b : List Stmt} {t : TS} {φ : Prop} (h : φ → PSs X b t) : PSs X b (tWhen φ t) := ⟨fun pins s σ H D I z => (h z.1).run pins s σ H D I z.2⟩
section
variable {K : PySem.W.Frag} {σ : L2.St} {ps ps' R : List HP} {Φ : V → List HP → Prop} {te : TE} {tr : TA} {nx : PN} {rt : V → List HP → Prop} {bk ct : PN} {W : WX} {XP : Value → L2.St → List HP → Prop}
/-- the wish about exceptions, over symbolic heaps -/
def Wish (W : WX) (XP : Value → L2.St → List HP → Prop) : Prop := ∀ c σ ps, XP c σ ps → ∀ H, Sat H ps → W c none σ H
theorem we_callS {S : SX} (hW : Wish W XP) (h : Wa tr σ ps fun vs ps1 => S vs ps1 Φ fun c ps2 => XP c σ ps2) : We (tCallS (spX S) (WE W) tr) σ ps Φ := fun H Q s q => h H _ s fun vs ps1 H1 k s1 =>
  ⟨ps1, Φ, fun c ps2 => XP c σ ps2, s1, k, q, fun c ps' H' x s' => hW c σ ps' x H' s'⟩
theorem we_methS {S : SX} {C : Addr} {m : Str} (hW : Wish W XP) (h : We te σ ps fun x ps1 => MethG C m x ps1 fun ps1 => Wa tr σ ps1 fun vs ps2 => S (x :: vs) ps2 Φ fun c ps3 => XP c σ ps3) : We (tMethS C m (spX S) (WE W) te tr) σ ps Φ := fun H Q s q =>
  h H _ s fun x ps1 H1 g s1 => by
    obtain ⟨a, dx, fs, e1, e2, e3, k⟩ := g.at' s1
    exact ⟨a, dx, fs, e1, e2, e3, k H1 _ s1 fun vs ps2 H2 k2 s2 => ⟨ps2, Φ, fun c ps2 => XP c σ ps2, s2, k2, q, fun c ps' H' x s' => hW c σ ps' x H' s'⟩⟩
theorem we_makeS {S : SX} {names : List Str} {I : CI K names} (hW : Wish W XP) (h : Wa tr σ ps fun vs ps1 => ∀ x, S (.ref x :: vs) (obj I x [] :: ps1) (fun v ps2 => v = .non ∧ Φ (.ref x) ps2) fun c ps3 => XP c σ ps3) : We (tMakeS I.C (spX S) (WE W) tr) σ ps Φ := fun H Q s q =>
  h H _ s fun vs ps1 H1 k s1 x dx hx hdx ne => by
    refine ⟨_, _, _, ?_, k x, fun v ps' H' ⟨e, f⟩ s' => ⟨e, q _ _ _ f s'⟩, fun c ps' H' x s' => hW c σ ps' x H' s'⟩
    have t1 := s1.new (o := .own x) hdx
    have t2 := t1.new (a := x) (o := .ins I.C dx []) (by rw [upd_ne (Ne.symm ne)]; exact hx)
    have t4 := (t2.perm (List.Perm.swap _ _ _)).drop
    unfold Sp.obj
    exact Sat.ex.mpr ⟨dx, t4⟩
/-- raise X('..') -/
theorem ws_raiseW {c : Value} (hW : Wish W XP) (h : XP c σ ps) : Ws (fun _ σ H => (fun (_ : L2.St) (H : Hp) (Q : XK) => Q c none H) σ H fun cls d H' => W cls d σ H') nx rt bk ct σ ps := fun H D' s l => hW c σ ps h H s
theorem ws_raiseE {c : Value} (hW : Wish W XP) (e : Ent ps ps') (h : XP c σ ps') : Ws (fun _ σ H => (fun (_ : L2.St) (H : Hp) (Q : XK) => Q c none H) σ H fun cls d H' => W cls d σ H') nx rt bk ct σ ps := fun H D' s l => hW c σ ps' h H (e H s)
/-- try .. except X as n (n in slot i) -/
theorem ws_try_as {c : Value} {i : Nat} {tb : WX → TS} {ts : Addr → Value → Option Addr → TS} (XP : Value → L2.St → List HP → Prop) (h : ∀ W, Wish W XP → Ws (tb W) nx rt bk ct σ ps)
    (hx : ∀ cls σ' ps', XP cls σ' ps' → PySem.W.exmOne K cls c = some true ∧ ∀ a, Ws (ts a cls none) (fun σ2 ps2 => nx (σ2.set i none) ps2) rt (fun σ2 ps2 => bk (σ2.set i none) ps2) (fun σ2 ps2 => ct (σ2.set i none) ps2) (σ'.set i (some (.ref a))) ps') :
    Ws (tTryAs K c i tb ts) nx rt bk ct σ ps := fun H D' s l =>
  h _ (fun cls σ' ps' x H' s' => ⟨true, (hx cls σ' ps' x).1, fun _ a ha => (hx cls σ' ps' x).2 a H' _ s' ⟨fun σ ps H x s => l.nx _ _ _ x s, l.rt, fun σ ps H x s => l.bk _ _ _ x s, fun σ ps H x s => l.ct _ _ _ x s⟩, fun z => nomatch z⟩) H D' s l
theorem ws_try_only {c : Value} {tb : WX → TS} {ts : Addr → Value → Option Addr → TS} (XP : Value → L2.St → List HP → Prop) (h : ∀ W, Wish W XP → Ws (tb W) nx rt bk ct σ ps)
    (hx : ∀ cls σ' ps', XP cls σ' ps' → PySem.W.exmOne K cls c = some true ∧ ∀ a, Ws (ts a cls none) nx rt bk ct σ' ps') :
    Ws (tTryOnly K c tb ts) nx rt bk ct σ ps := fun H D' s l =>
  h _ (fun cls σ' ps' x H' s' => ⟨true, (hx cls σ' ps' x).1, fun _ a ha => (hx cls σ' ps' x).2 a H' _ s' l, fun z => nomatch z⟩) H D' s l
theorem ws_when {ts : TS} {φ : Prop} (h : φ) (k : Ws ts nx rt bk ct σ ps) : Ws (tWhen φ ts) nx rt bk ct σ ps := fun H D' s l => ⟨h, k H D' s l⟩
theorem wc_isE {D a e : Addr} {b : Bool} (h : PySem.W.kitOne K (.ref D) (.ref e) = some b) (k : Φ (.bl b) ps) : Wc (rIsE K D a) [.ref a, .ref e] ps Φ := fun H Q s q => ⟨_, .ref e, b, rfl, fun u r => r, h, q _ _ _ k s⟩
theorem wc_isEV {D a : Addr} {n : String} {b : Bool} (h : PySem.W.kitOne K (.ref D) (.type n) = some b) (k : Φ (.bl b) ps) : Wc (rIsE K D a) [.ref a, .ty n] ps Φ := fun H Q s q => ⟨_, .type n, b, rfl, fun u r => r, h, q _ _ _ k s⟩
theorem vals_refs : ∀ {es : List Addr} {us : List Value}, Vals (es.map V.ref) us → us = es.map Value.ref
  | [], _, r => by cases r; rfl
  | e :: es, _, r => by
    cases r with
    | cons h t => rw [vals_refs t, show _ = Value.ref e from h]; rfl
theorem wc_isET3 {D a t e1 e2 e3 : Addr} (m : pt t (.tup [.ref e1, .ref e2, .ref e3]) ∈ ps) (h1 : PySem.W.kitOne K (.ref D) (.ref e1) = some false) (h2 : PySem.W.kitOne K (.ref D) (.ref e2) = some false) (h3 : PySem.W.kitOne K (.ref D) (.ref e3) = some false) (k : Φ (.bl false) ps) : Wc (rIsET K D a) [.ref a, .ref t] ps Φ := fun H Q s q =>
  ⟨t, _, [e1, e2, e3].map Value.ref, false, rfl, SqT.of (s.get m), fun us r => vals_refs (es := [e1, e2, e3]) r, by simp [PySem.W.kitAny, h1, h2, h3], q _ _ _ k s⟩
end
/-- the wish of a def that may raise -/
theorem Wish.of {E : XK} {Ψ : Value → List HP → Prop} (hE : ∀ c ps' H', Ψ c ps' → Sat H' ps' → E c none H') : Wish (fun cls d _ H => E cls d H) fun c _ ps => Ψ c ps := fun c _ ps x H s => hE c ps H x s
end Sp

set_option Elab.async false
set_option linter.all false
set_option maxRecDepth 100000
set_option maxHeartbeats 4000000
/-! The boxes. -/
namespace Sp
open PySem PySem.Spec PyProof.Rows L2
/-- tuples that nobody writes -/
@[irreducible] def tups (L : List (Addr × List V)) : HP := grp (L.map fun q => pt q.1 (.tup q.2))
section
variable {K : PySem.W.Frag} {ps R : List HP} {L : List (Addr × List V)} {a : Addr} {xs : List V}
theorem tups_nil : Ent R (tups [] :: R) := fun H s => by unfold tups; exact Sat.grp.mpr s
theorem tups_snoc : Ent (pt a (.tup xs) :: tups L :: R) (tups (L ++ [(a, xs)]) :: R) := fun H s => by
  unfold tups at *
  have s1 := Sat.grp.mp (s.perm (List.Perm.swap _ _ _))
  refine Sat.grp.mpr (s1.perm ?_)
  rw [List.map_append, List.append_assoc]
  exact .refl _
theorem rdt_tups (m : tups L ∈ ps) (h : (a, xs) ∈ L) : RdT K ps a xs := by
  unfold RdT
  intro H s
  obtain ⟨l1, l2, rfl⟩ := List.append_of_mem m
  have p : (l1 ++ tups L :: l2).Perm (tups L :: (l1 ++ l2)) := List.perm_middle
  have s2 := s.perm p
  unfold tups at s2
  exact SqT.of ((Sat.grp.mp s2).get (List.mem_append.mpr (.inl (List.mem_map.mpr ⟨(a, xs), h, rfl⟩))))
end
/-- a touch: taken (or put), the place, the number -/
structure Touch where
  taken : Bool
  place : Int
  number : Int
  deriving DecidableEq
def Touch.word (t : Touch) : Str := match t.taken with
  | true => "take"
  | false => "put"
def Touch.vals (t : Touch) : List V := [.str t.word, .int t.place, .int t.number]
/-- the boxes: their numbers, all touches -/
@[irreducible] def boxC {K : PySem.W.Frag} {names : List Str} (I : CI K names) (a : Addr) (ns : List Int) (log : List Touch) : HP :=
  exh fun q : Addr × Addr × List Addr => grp [pur (q.2.2.length = log.length), obj I a [("many", .int ns.length), ("numbers", .ref q.1), ("log", .ref q.2.1)], pt q.1 (.lst (ns.map V.int)), pt q.2.1 (.lst (q.2.2.map V.ref)), tups (q.2.2.zip (log.map Touch.vals))]
section
variable {K : PySem.W.Frag} {names : List Str} {I : CI K names} {ts : TS} {nx : PN} {rt : V → List HP → Prop} {bk ct : PN} {σ : L2.St} {ps R : List HP} {a q1 q2 : Addr} {ns : List Int} {log : List Touch} {as : List Addr}
theorem Ws.boxC (h : ∀ (q1 q2 : Addr) (as : List Addr), as.length = log.length → Ws ts nx rt bk ct σ (obj I a [("many", .int ns.length), ("numbers", .ref q1), ("log", .ref q2)] :: pt q1 (.lst (ns.map V.int)) :: pt q2 (.lst (as.map V.ref)) :: tups (as.zip (log.map Touch.vals)) :: ps)) : Ws ts nx rt bk ct σ (Sp.boxC I a ns log :: ps) := by
  unfold Sp.boxC
  exact Ws.ex fun q => Ws.grp (Ws.pur fun e => h q.1 q.2.1 q.2.2 e)
theorem open_boxC {H : Hp} (pk : Pick (Sp.boxC I a ns log) ps R) (s : Sat H ps) : ∃ z : Addr × Addr × { as : List Addr // as.length = log.length }, Sat H (obj I a [("many", .int ns.length), ("numbers", .ref z.1), ("log", .ref z.2.1)] :: pt z.1 (.lst (ns.map V.int)) :: pt z.2.1 (.lst (z.2.2.1.map V.ref)) :: tups (z.2.2.1.zip (log.map Touch.vals)) :: R) := by
  have s := s.perm pk.perm
  unfold Sp.boxC at s
  obtain ⟨q, s⟩ := Sat.ex.mp s
  obtain ⟨e, s⟩ := Sat.pur.mp (Sat.grp.mp s)
  exact ⟨⟨q.1, q.2.1, q.2.2, e⟩, s⟩
theorem fldG_box {f : Str} {Φ : V → List HP → Prop} (pk : Pick (Sp.boxC I a ns log) ps R) (h : ∀ (q1 q2 : Addr) (as : List Addr), as.length = log.length → FldG K (.ref a) f (obj I a [("many", .int ns.length), ("numbers", .ref q1), ("log", .ref q2)] :: pt q1 (.lst (ns.map V.int)) :: pt q2 (.lst (as.map V.ref)) :: tups (as.zip (log.map Touch.vals)) :: R) Φ) : FldG K (.ref a) f ps Φ :=
  FldG.open (fun H s => open_boxC pk s) fun z => h z.1 z.2.1 z.2.2.1 z.2.2.2
theorem fldS_box {f : Str} {y : V} {k : List HP → Prop} (pk : Pick (Sp.boxC I a ns log) ps R) (h : ∀ (q1 q2 : Addr) (as : List Addr), as.length = log.length → FldS K (.ref a) f y (obj I a [("many", .int ns.length), ("numbers", .ref q1), ("log", .ref q2)] :: pt q1 (.lst (ns.map V.int)) :: pt q2 (.lst (as.map V.ref)) :: tups (as.zip (log.map Touch.vals)) :: R) k) : FldS K (.ref a) f y ps k :=
  FldS.open (fun H s => open_boxC pk s) fun z => h z.1 z.2.1 z.2.2.1 z.2.2.2
theorem Ent.boxC {m : Int} (e : as.length = log.length) (em : m = ns.length) : Ent (obj I a [("many", .int m), ("numbers", .ref q1), ("log", .ref q2)] :: pt q1 (.lst (ns.map V.int)) :: pt q2 (.lst (as.map V.ref)) :: tups (as.zip (log.map Touch.vals)) :: R) (Sp.boxC I a ns log :: R) := fun H z => by
  subst em
  unfold Sp.boxC
  exact Sat.ex.mpr ⟨(q1, q2, as), Sat.grp.mpr (Sat.pur.mpr ⟨e, z⟩)⟩
theorem Ent.box0 {m : Int} (em : m = ns.length) : Ent (obj I a [("many", .int m), ("numbers", .ref q1), ("log", .ref q2)] :: pt q1 (.lst (ns.map V.int)) :: pt q2 (.lst []) :: R) (Sp.boxC I a ns [] :: R) :=
  Ent.trans (Ent.cons (Ent.cons (Ent.cons tups_nil))) (Ent.boxC (as := []) rfl em)
theorem methBox {f : Str} {k : List HP → Prop} (h : Sp.boxC I a ns log ∈ ps) (p : (["many", "numbers", "log"] : List Str) = names) (n : f ∉ names) (q : k ps) : MethG I.C f (.ref a) ps k :=
  methC h (fun H R z => by
    unfold Sp.boxC at z
    obtain ⟨x, z⟩ := Sat.ex.mp z
    obtain ⟨_, z⟩ := Sat.pur.mp (Sat.grp.mp z)
    obtain ⟨dx, e⟩ := z.obj (List.mem_cons_self ..)
    exact ⟨dx, _, e, lookup_not fun y => n (by rw [← p]; exact y)⟩) q
/-- one touch more -/
theorem Ent.box1 {t : Touch} {m : Int} {b : Addr} (e : as.length = log.length) (em : m = ns.length) :
    Ent (obj I a [("many", .int m), ("numbers", .ref q1), ("log", .ref q2)] :: pt q1 (.lst (ns.map V.int)) :: pt q2 (.lst (as.map V.ref ++ [.ref b])) :: pt b (.tup t.vals) :: tups (as.zip (log.map Touch.vals)) :: R) (Sp.boxC I a ns (log ++ [t]) :: R) := by
  have e1 : as.map V.ref ++ [V.ref b] = (as ++ [b]).map V.ref := by rw [List.map_append]; rfl
  have e2 : as.zip (log.map Touch.vals) ++ [(b, t.vals)] = (as ++ [b]).zip ((log ++ [t]).map Touch.vals) := by
    rw [List.map_append, List.zip_append (by rw [List.length_map]; exact e)]; rfl
  rw [e1]
  refine Ent.trans ?_ (Ent.boxC (q1 := q1) (q2 := q2) (as := as ++ [b]) (m := m) (by simp [e]) em)
  refine Ent.cons (Ent.cons (Ent.cons ?_))
  rw [← e2]
  exact tups_snoc
end
end Sp

set_option Elab.async false
set_option linter.all false
set_option maxRecDepth 100000
set_option maxHeartbeats 4000000
/-! Parts opened anywhere; the pool of tuples; answers and records in it. -/
namespace Sp
open PySem PySem.Spec PyProof.Rows L2
/-- what holds holds as g z for some z -/
def Opn {α : Type} (ps : List HP) (g : α → List HP) : Prop := ∀ H, Sat H ps → ∃ z, Sat H (g z)
section
variable {α : Type} {ps ps' R : List HP} {g : α → List HP} {te : TE} {tt : TT} {ta : TA} {ts : TS} {σ : L2.St} {nx : PN} {rt : V → List HP → Prop} {bk ct : PN} {Φ : V → List HP → Prop}
theorem We.opn (o : Opn ps g) (h : ∀ z, We te σ (g z) Φ) : We te σ ps Φ := fun H Q s k => let ⟨z, s2⟩ := o H s; h z H Q s2 k
theorem Wa.opn {Φ : List V → List HP → Prop} (o : Opn ps g) (h : ∀ z, Wa ta σ (g z) Φ) : Wa ta σ ps Φ := fun H Q s k => let ⟨z, s2⟩ := o H s; h z H Q s2 k
theorem Ws.opn (o : Opn ps g) (h : ∀ z, Ws ts nx rt bk ct σ (g z)) : Ws ts nx rt bk ct σ ps := fun H D s k => let ⟨z, s2⟩ := o H s; h z H D s2 k
theorem Wt.opn {Φ : Bool → List HP → Prop} (o : Opn ps g) (h : ∀ z, Wt tt σ (g z) Φ) : Wt tt σ ps Φ := fun H Q s k => let ⟨z, s2⟩ := o H s; h z H Q s2 k
theorem W2.opn {r : R2} {x y : V} (o : Opn ps g) (h : ∀ z, W2 r x y (g z) Φ) : W2 r x y ps Φ := fun H Q s k => let ⟨z, s2⟩ := o H s; h z H Q s2 k
theorem Wg.opn {t : TG} {x : V} {Ψ : L2.St → List HP → Prop} (o : Opn ps g) (h : ∀ z, Wg t x σ (g z) Ψ) : Wg t x σ ps Ψ := fun H Q s k => let ⟨z, s2⟩ := o H s; h z H Q s2 k
theorem OutP.opn {v : V} (o : Opn ps g) (h : ∀ z, OutP Φ v (g z)) : OutP Φ v ps := fun H s => let ⟨z, s2⟩ := o H s; h z H s2
theorem Opn.ent (e : Ent ps ps') (o : Opn ps' g) : Opn ps g := fun H s => o H (e H s)
end
/-- an answer whose tuple lies in the pool -/
def AnsR (L : List (Addr × List V)) (v : V) : Ans → Prop
  | .non => v = .non
  | .int i => v = .int i
  | .view l => ∃ p, v = .ref p ∧ (p, l.map V.int) ∈ L
theorem AnsR.mono {L L' : List (Addr × List V)} {v : V} {an : Ans} (h : AnsR L v an) (s : ∀ x ∈ L, x ∈ L') : AnsR L' v an := by
  cases an with
  | non => exact h
  | int i => exact h
  | view l => obtain ⟨p, e, m⟩ := h; exact ⟨p, e, s _ m⟩
/-- a larger pool -/
abbrev More (L : List (Addr × List V)) := { L' : List (Addr × List V) // ∀ x ∈ L, x ∈ L' }
section
variable {K : PySem.W.Frag} {ps R : List HP} {L : List (Addr × List V)} {v u : V} {an bn : Ans} {a : Addr} {xs : List V} {Φ : V → List HP → Prop}
theorem ans_pool : Opn (ansC v an :: tups L :: R) fun z : { L' : More L // AnsR L'.1 v an } => tups z.1.1 :: R := fun H s => by
  cases an with
  | non =>
    unfold ansC at s
    obtain ⟨e, s⟩ := Sat.pur.mp s
    exact ⟨⟨⟨L, fun _ m => m⟩, e⟩, s⟩
  | int i =>
    unfold ansC at s
    obtain ⟨e, s⟩ := Sat.pur.mp s
    exact ⟨⟨⟨L, fun _ m => m⟩, e⟩, s⟩
  | view l =>
    unfold ansC at s
    obtain ⟨p, s⟩ := Sat.ex.mp s
    obtain ⟨e, s⟩ := Sat.pur.mp (Sat.grp.mp s)
    exact ⟨⟨⟨L ++ [(p, l.map V.int)], fun _ m => List.mem_append_left _ m⟩, p, e, List.mem_append_right _ (List.mem_cons_self ..)⟩, tups_snoc H s⟩
def Ans.data : Ans → PyData
  | .non => .none
  | .int i => .int i
  | .view l => .tuple (l.map .int)
theorem Ans.eqv (an bn : Ans) : PyData.eqv an.data bn.data = decide (an = bn) := by
  cases an <;> cases bn <;> simp only [Ans.data]
  case int.int i j => by_cases h : i = j <;> simp [PyData.eqv, h]
  case view.view l m => rw [eqv_tints]; simp
  all_goals simp [PyData.eqv]
theorem Ans.shaped (an : Ans) : SeqAt.shaped an.data = true := by
  cases an with
  | non => rfl
  | int i => rfl
  | view l => exact shaped_tints l
theorem rdd_ansR (m : tups L ∈ ps) (h : AnsR L v an) : RdD K ps v an.data := by
  cases an with
  | non => rw [show v = .non from h]; exact rdd_non
  | int i => rw [show v = .int i from h]; exact rdd_int
  | view l =>
    obtain ⟨p, rfl, hp⟩ := h
    exact rdd_tints (rdt_tups m hp)
theorem rdd_ansC (m : ansC v an ∈ ps) : RdD K ps v an.data := by
  unfold RdD
  refine ⟨fun H s => ?_, an.shaped⟩
  obtain ⟨l1, l2, rfl⟩ := List.append_of_mem m
  have p : (l1 ++ ansC v an :: l2).Perm (ansC v an :: (l1 ++ l2)) := List.perm_middle
  have s := s.perm p
  cases an with
  | non =>
    unfold ansC at s
    rw [(Sat.pur.mp s).1]
    exact .non
  | int i =>
    unfold ansC at s
    rw [(Sat.pur.mp s).1]
    exact .int i
  | view l =>
    unfold ansC at s
    obtain ⟨p, s1⟩ := Sat.ex.mp s
    obtain ⟨e, s2⟩ := Sat.pur.mp (Sat.grp.mp s1)
    rw [e]
    exact (rdd_tints (K := K) (rdt_pt (List.mem_cons_self ..))).dp H s2
theorem w2_neA (h1 : RdD K ps v an.data) (h2 : RdD K ps u bn.data) (k : Φ (.bl (!decide (an = bn))) ps) : W2 (rNeD K) v u ps Φ := w2_neD h1 h2 (by rw [Ans.eqv]; exact k)
theorem w2_eqA (h1 : RdD K ps v an.data) (h2 : RdD K ps u bn.data) (k : Φ (.bl (decide (an = bn))) ps) : W2 (rEqD K) v u ps Φ := w2_eqD h1 h2 (by rw [Ans.eqv]; exact k)
end
section
variable {K : PySem.W.Frag} {ps R : List HP} {L : List (Addr × List V)} {v u : V} {an bn : Ans} {a : Addr} {xs : List V} {Φ : V → List HP → Prop}
theorem w2_neL {ns ms : List Int} {b : Addr} (h1 : RdL K ps a (ns.map V.int)) (h2 : RdL K ps b (ms.map V.int)) (k : Φ (.bl (!decide (ns = ms))) ps) : W2 (rNeD K) (.ref a) (.ref b) ps Φ := w2_neD (rdd_ints h1) (rdd_ints h2) (by rw [eqv_ints]; exact k)
theorem w2_eqL {ns ms : List Int} {b : Addr} (h1 : RdL K ps a (ns.map V.int)) (h2 : RdL K ps b (ms.map V.int)) (k : Φ (.bl (decide (ns = ms))) ps) : W2 (rEqD K) (.ref a) (.ref b) ps Φ := w2_eqD (rdd_ints h1) (rdd_ints h2) (by rw [eqv_ints]; exact k)
def upto (n : Nat) : List Int := (List.range n).map fun (i : Nat) => (i : Int)
def LrgG (x : V) (k : Addr → Nat → Prop) : Prop := ∃ n : Nat, x = .int n ∧ n ≤ 1000000 ∧ ∀ p, k p n
theorem lrgG {n : Nat} {k : Addr → Nat → Prop} (l : n ≤ 1000000) (h : ∀ p, k p n) : LrgG (.int n) k := ⟨n, rfl, l, h⟩
theorem we_lstRg {te : TE} {σ : L2.St} (h : We te σ ps fun x ps1 => LrgG x fun p n => Φ (.ref p) (pt p (.lst ((upto n).map V.int)) :: ps1)) : We (tLstRg (tRg1 te)) σ ps Φ := fun H Q s q =>
  h H _ s fun x ps1 H1 ⟨n, e, l, k⟩ s1 => by
    refine ⟨n, e, RgOk.of_le (by omega) (by omega) (by omega) (by omega), fun p hp => ?_⟩
    have e1 : rgV 0 n = (upto n).map V.int := by
      unfold rgV upto
      rw [List.map_map]
      have : ((n : Int) - 0).toNat = n := by omega
      rw [this]
      refine List.map_congr_left fun i _ => ?_
      show V.int (0 + (i : Int)) = V.int (i : Int)
      rw [Int.zero_add]
    rw [e1]
    exact q _ _ _ (k p) (s1.new hp)
end
/-! ### records -/
structure Rec where
  hand : Int
  dA : Addr
  deed : Deed
  b : Int
  e : Int
  v : V
  an : Ans
def Rec.vals (r : Rec) : List V := [.int r.hand, .ref r.dA, .int r.b, .int r.e, r.v]
def RecIn (L : List (Addr × List V)) (a : Addr) (r : Rec) : Prop := (a, r.vals) ∈ L ∧ (r.dA, r.deed.vals) ∈ L ∧ AnsR L r.v r.an
theorem RecIn.mono {L L' : List (Addr × List V)} {a : Addr} {r : Rec} (h : RecIn L a r) (s : ∀ x ∈ L, x ∈ L') : RecIn L' a r := ⟨s _ h.1, s _ h.2.1, h.2.2.mono s⟩
/-- records at their addresses -/
def RecsIn (L : List (Addr × List V)) (as : List Addr) (rs : List Rec) : Prop := as.length = rs.length ∧ ∀ (i : Nat) (a : Addr) (r : Rec), as[i]? = some a → rs[i]? = some r → RecIn L a r
theorem RecsIn.mono {L L' : List (Addr × List V)} {as : List Addr} {rs : List Rec} (h : RecsIn L as rs) (s : ∀ x ∈ L, x ∈ L') : RecsIn L' as rs := ⟨h.1, fun i a r h1 h2 => (h.2 i a r h1 h2).mono s⟩
theorem RecsIn.nil {L : List (Addr × List V)} : RecsIn L [] [] := ⟨rfl, fun i a r h => by simp at h⟩
theorem RecsIn.snoc {L : List (Addr × List V)} {as : List Addr} {rs : List Rec} {a : Addr} {r : Rec} (h : RecsIn L as rs) (k : RecIn L a r) : RecsIn L (as ++ [a]) (rs ++ [r]) := ⟨by simp [h.1], fun i a' r' h1 h2 => by
  by_cases hi : i < as.length
  · rw [List.getElem?_append_left hi] at h1
    rw [List.getElem?_append_left (by rw [← h.1]; exact hi)] at h2
    exact h.2 i a' r' h1 h2
  · have hi2 : i < as.length + 1 := by
      have := (List.getElem?_eq_some_iff.mp h1).1
      simpa using this
    have e : i = as.length := by omega
    subst e
    rw [List.getElem?_append_right (Nat.le_refl _), Nat.sub_self] at h1
    rw [h.1, List.getElem?_append_right (Nat.le_refl _), Nat.sub_self] at h2
    obtain rfl := Option.some.inj h1
    obtain rfl := Option.some.inj h2
    exact k⟩
/-! ### does the order keep the records -/
def kgo (rs : List Rec) : List Int → Pst → Int → Bool
  | [], _, _ => true
  | p :: r, s, l => match rs[p.toNat]? with
    | none => false
    | some q => if q.e < l ∨ s.ans q.deed ≠ q.an then false else kgo rs r (s.done q.hand q.deed) (max l q.b)
theorem upto_len (n : Nat) : (upto n).length = n := by simp [upto]
theorem upto_mem {n : Nat} {p : Int} (h : p ∈ upto n) : 0 ≤ p ∧ p < n := by
  obtain ⟨i, hi, rfl⟩ := List.mem_map.mp h
  have := List.mem_range.mp hi
  omega
theorem upto_sorted (n : Nat) : (upto n).Pairwise (· ≤ ·) := by
  unfold upto
  rw [List.pairwise_map]
  exact (List.pairwise_lt_range (n := n)).imp fun h => by omega
def keepsF (rs : List Rec) (order : List Int) (m : Nat) : Bool := decide (order.Perm (upto rs.length)) && kgo rs order (Pst.new m) (-1)
theorem sorted_is {ns ms : List Int} {n : Nat} (p : ms.Perm ns) (s : ms.Pairwise (· ≤ ·)) : ms = upto n ↔ ns.Perm (upto n) := by
  constructor
  · rintro rfl; exact p.symm
  · intro q
    exact List.Perm.eq_of_pairwise (le := fun a b : Int => a ≤ b) (fun a b _ _ h1 h2 => by omega) s (upto_sorted n) (p.trans q)
end Sp
namespace Sp
open PySem PySem.Spec PyProof.Rows L2
theorem Rec.vals_def (r : Rec) : r.vals = [.int r.hand, .ref r.dA, .int r.b, .int r.e, r.v] := rfl
/-- records whose answers are those of the row done at once -/
inductive Hist (m : Nat) : List Rec → Pst → Int → Prop
  | nil : Hist m [] (Pst.new m) (-1)
  | snoc {rs : List Rec} {s : Pst} {l : Int} {r : Rec} (h : Hist m rs s l) (e : ¬ r.e < l) (a : s.ans r.deed = r.an) : Hist m (rs ++ [r]) (s.done r.hand r.deed) (max l r.b)
theorem Hist.wf {m : Nat} {rs : List Rec} {s : Pst} {l : Int} (h : Hist m rs s l) : s.wf m ∧ s.line.length ≤ rs.length := by
  induction h with
  | nil => exact ⟨Pst.new_wf m, Nat.le_refl _⟩
  | @snoc rs s l r h e a ih =>
    refine ⟨Pst.done_wf ih.1, ?_⟩
    rw [List.length_append]
    exact Nat.le_trans Pst.done_line (by simpa using ih.2)
theorem pool2 {a b : Addr} {xs ys : List V} {L : List (Addr × List V)} {R : List HP} : Ent (pt a (.tup xs) :: pt b (.tup ys) :: tups L :: R) (tups (L ++ [(b, ys)] ++ [(a, xs)]) :: R) := (Ent.cons tups_snoc).trans tups_snoc
theorem picks2 {a b : HP} {ps R : List HP} (h : Picks [a, b] ps R) : Ent ps (a :: b :: R) := Ent.picks h
theorem mem_snoc {α : Type} {l : List α} {x : α} : x ∈ l ++ [x] := List.mem_append_right _ (List.mem_cons_self ..)
theorem more_snoc {α : Type} {l : List α} {y : α} : ∀ x ∈ l, x ∈ l ++ [y] := fun _ m => List.mem_append_left _ m
end Sp

set_option Elab.async false
set_option linter.all false
set_option maxRecDepth 100000
set_option maxHeartbeats 4000000
/-! list(reversed(a list)). -/
namespace LRv
open PySem PySem.Spec PyProof.Rows RT
section
variable {prog : Program} {w : World} {A : Around} {E : Value → Shared → Prop} {s : Shared}
theorem extend_rev {R : Result → Shared → Prop} (hh : A.handled = none) {it l : Addr} {items : Array Value} (S : Addr) (res : Value) (c₀ : Nat) (hS : s.heap.get? S = some { cls := .type "list", data := .seq #[] c₀ })
    (hit : s.heap.IsRevIter it l ((items.size : Int) - 1)) (hl : s.heap.IsList l items) (hne : l ≠ it) (hn : items.size ≤ sizeLine) (hSi : S ≠ it) (hSl : S ≠ l)
    (hR : ∀ (h' : Heap) (tk : Nat) (acc' : Array Value) (c' : Nat), (∀ b o, b ≠ S → b ≠ it → s.heap.get? b = some o → h'.get? b = some o) → h'.get? S = some { cls := .type "list", dict := none, data := .seq acc' c', slots := #[] } →
      ItemsOf (fun i v => items[items.size - 1 - i]? = some v) acc' items.size → R (.ok (.ret res)) { s with heap := h', toks := tk }) :
    wpAny (model prog w) A.in1 (Builtin.List.listExtendWith (.ref S) (.ref it) res)
      (fun fin s' => match fin with | .done f => R (.ok f) s' | .again c' => c'.quiet = true ∧ codeAny (model prog w) A c' R s') (fun e s' => R (.error e) s') s := by
  have W := (Walks.listRev (prog := prog) (w := w) (A := A.in1) hh it l hne items).toS
  have hSf : S ∉ [it, l] := by simp only [List.mem_cons, List.not_mem_nil, or_false, not_or]; exact ⟨hSi, hSl⟩
  have hT : s.TypeIs (.ref it) "list_reverseiterator" := Heap.IsRevIter.typeIs hit
  have h1 : Builtin.List.listSameRef (.ref S) (.ref it) = false := by simp [Builtin.List.listSameRef, hSi]
  unfold Builtin.List.listExtendWith
  refine wpAny_bind (wpAny_typeOf hT ?_)
  rw [if_neg (by rw [h1]; decide)]
  refine wpAny_bind (wpAny_pyIter_revIter hit ?_)
  refine wpAny_bind (wpAny_holding ?_)
  unfold Builtin.List.listLengthHint
  refine wpAny_bind (wpAny_specialOf hT nolen_lri ?_)
  show wpAny _ A.in1 (specialOf (Value.ref it) (Str.ofString "__length_hint__") >>= _) _ _ _
  refine wpAny_bind (wpAny_specialOf hT hint_lri ?_)
  generalize hid : ("list_reverseiterator.__length_hint__" : String) = id0
  wp_delta
  rw [show splitId id0 = some ("list_reverseiterator", "__length_hint__") from by subst hid; decide +kernel]
  subst hid
  refine wpAny_bind (wpAny_isInstance (b := true) hT (by rw [isSubtype_type]; kernel_rfl) ?_)
  refine wpAny_pure ?_
  rw [if_neg (by decide)]
  have e0 : ((items.size : Nat) : Int) - 1 - ((0 : Nat) : Int) = (items.size : Int) - 1 := by omega
  refine wpAny_pure ⟨plainId_quiet F.plain_extend_loop _, codeAny_extend_loopS W hn _ hSf _ items.size 0 _ _ _ rfl (Nat.zero_le _) ⟨Nat.zero_le _, by rw [e0]; exact hit, hl⟩ hS (ItemsOf.nil _) fun s' acc' c' hm hS' hacc => ?_⟩
  rw [Moved.eq_with hm]
  refine hR s'.heap s'.toks acc' c' (fun b o hb hb2 e => hm.heap b o (fun hmem => ?_) e) hS' hacc
  rcases List.mem_cons.mp hmem with e' | hmem
  · exact hb e'
  · exact hb2 (List.mem_singleton.mp hmem)
theorem list_init_rev {R : Result → Shared → Prop} (hh : A.handled = none) {it l : Addr} {items : Array Value} (S : Addr) (hS : s.heap.get? S = some { cls := .type "list", data := .seq #[] })
    (hit : s.heap.IsRevIter it l ((items.size : Int) - 1)) (hl : s.heap.IsList l items) (hne : l ≠ it) (hn : items.size ≤ sizeLine) (hSi : S ≠ it) (hSl : S ≠ l)
    (hR : ∀ (h' : Heap) (tk : Nat) (acc' : Array Value) (c' : Nat), (∀ b o, b ≠ S → b ≠ it → s.heap.get? b = some o → h'.get? b = some o) → h'.get? S = some { cls := .type "list", dict := none, data := .seq acc' c', slots := #[] } →
      ItemsOf (fun i v => items[items.size - 1 - i]? = some v) acc' items.size → R (.ok (.ret .none)) { s with heap := h', toks := tk }) :
    wpAny (model prog w) A.in1 (Builtin.«list.__init__» ⟨[.ref S, .ref it], []⟩)
      (fun fin s' => match fin with | .done f => R (.ok f) s' | .again c' => c'.quiet = true ∧ codeAny (model prog w) A c' R s') (fun e s' => R (.error e) s') s := by
  show wpAny _ _ (do let old ← Builtin.List.listItems (.ref S); Builtin.List.listUpdate (.ref S) (fun _ => #[]); letGo old.toList.reverse; Builtin.List.listExtendWith (.ref S) (.ref it) .none) _ _ s
  refine wpAny_bind ?_
  unfold Builtin.List.listItems
  refine wpAny_bind (wpAny_seqItems hS rfl (wpAny_pure ?_))
  show wpAny _ _ (updateSeq S (fun _ => #[]) >>= fun _ => letGo (#[] : Array Value).toList.reverse >>= fun _ => Builtin.List.listExtendWith (.ref S) (.ref it) .none) _ _ s
  refine wpAny_bind (wpAny_updateSeq hS rfl ?_)
  have hS₂ := Heap.get?_update_self (Obj.mapSeq (fun _ => (#[] : Array Value))) hS rfl
  have oth : ∀ b o, b ≠ S → s.heap.get? b = some o → (s.heap.update S (Obj.mapSeq (fun _ => (#[] : Array Value)))).get? b = some o :=
    fun b o hb e => (Heap.get?_update_other _ _ (Ne.symm hb)).trans e
  refine wpAny_bind (wpAny_letGo ?_)
  have hit2 : (s.heap.update S (Obj.mapSeq (fun _ => (#[] : Array Value)))).IsRevIter it l ((items.size : Int) - 1) := hit.at fun o e => oth it o (Ne.symm hSi) e
  have hl2 : (s.heap.update S (Obj.mapSeq (fun _ => (#[] : Array Value)))).IsList l items := by
    obtain ⟨o, ho, r⟩ := hl
    exact ⟨o, oth l o (Ne.symm hSl) ho, r⟩
  refine extend_rev hh S .none _ hS₂ hit2 hl2 hne hn hSi hSl (fun h' tk acc' c' hk hS' hacc => ?_)
  exact hR h' tk acc' c' (fun b o hb hb2 e => hk b o hb hb2 (oth b o hb e)) hS' hacc
theorem call_list_rev {it l : Addr} {items : Array Value} {Q : Value → Shared → Prop} (hh : A.handled = none) (hit : s.heap.IsRevIter it l ((items.size : Int) - 1)) (hl : s.heap.IsList l items) (hne : l ≠ it) (hn : items.size ≤ sizeLine)
    (hQ : ∀ (h' : Heap) (tk : Nat) (acc' : Array Value) (c' : Nat), (∀ b o, b ≠ it → s.heap.get? b = some o → h'.get? b = some o) →
      h'.get? s.heap.objs.size = some { cls := .type "list", dict := none, data := .seq acc' c', slots := #[] } → ItemsOf (fun i v => items[items.size - 1 - i]? = some v) acc' items.size → Q (.ref s.heap.objs.size) { s with heap := h', toks := tk }) :
    wpAny (model prog w) A (call (.type "list") [.ref it]) Q E s := by
  refine callType_codes (Q₁ := fun obj s₁ => obj = .ref s.heap.objs.size ∧ s₁ = { s with heap := s.heap.push { cls := .type "list", data := .seq #[] } }) PySem.F.called_list (PySem.F.typeCall_list_1 _) PySem.F.entry_list_init
    (code_list_new _ ⟨rfl, rfl⟩) fun obj s₁ h₁ => ?_
  obtain ⟨rfl, rfl⟩ := h₁
  have hS : (s.heap.push { cls := .type "list", data := .seq #[] }).get? s.heap.objs.size = some { cls := .type "list", data := .seq #[] } := Heap.get?_push_size _ rfl
  obtain ⟨oi, hoi, _⟩ := id hit
  obtain ⟨ol, hol, _⟩ := id hl
  refine ⟨⟨_, hS, rfl⟩, PySem.F.args_list_init_2 _ _, list_init_rev (A := A.in1) hh _ hS (hit.at fun o e => Heap.get?_push_of_some _ e) (hl.push _) hne hn (Nat.ne_of_gt (Heap.lt_size hoi)) (Nat.ne_of_gt (Heap.lt_size hol)) (fun h' tk acc' c' hk hS' hacc => ?_)⟩
  exact ⟨rfl, hQ h' tk acc' c' (fun b o hb e => hk b o (Nat.ne_of_lt (Heap.lt_size e)) hb (Heap.get?_push_of_some _ e)) hS' hacc⟩
end
end LRv
namespace Sp
open PySem PySem.Spec PyProof.Rows L2 RT
def tLstRev (K : PySem.W.Frag) (te : TE) : TE := fun σ H Q => te σ H fun v H1 => ∃ (a : Addr) (xs : List V), v = .ref a ∧ SqL K H1 a xs ∧ ∀ q, H1 q = none → Q (.ref q) (upd H1 q (.lst xs.reverse))
theorem pe_lstRev {X : Cx} {e : Expr} {te : TE} {p p2 pos pos2 : Pos} (hc : X.calm = true) (hg : Gl X "list") (hm : X.mg "list" = none) (hg2 : Gl X "reversed") (hm2 : X.mg "reversed" = none) (he : PE X e te)
    (hs : starEach [e] X.env = (false, eval e X.env) :: starEach [] X.env := by rfl)
    (hs2 : starEach [.Call (.Name "reversed" p2) [e] [] pos2] X.env = (false, eval (.Call (.Name "reversed" p2) [e] [] pos2) X.env) :: starEach [] X.env := by rfl) :
    PE X (.Call (.Name "list" p) [.Call (.Name "reversed" p2) [e] [] pos2] [] pos) (tLstRev X.K te) := by
  refine ⟨fun pins s σ H Q I h => ?_⟩
  refine Call_ (ld_blt I hg hm boot_list (PyProof.Rows.callWith_type1 (args_cons (Call_ (ld_blt I hg2 hm2 PyProof.Rows.boot_reversed (PyProof.Rows.callWith_type1 (args_cons (thn (he.run pins s σ H _ I h) fun u s1 ⟨v, H1, I1, r1, q1⟩ => args_nil ?_) hs) hs rfl))) hs2) hs2 rfl))
  obtain ⟨a, xs, ev, hq, q⟩ := q1
  subst ev
  obtain rfl : u = Value.ref a := r1
  obtain ⟨its, rv, p', hz⟩ := I1.list hq
  refine call_reversed_list p'.isList (args_nil ?_)
  have k0 : ∀ b o, s1.heap.get? b = some o → (s1.heap.push (revObj a ((its.toArray.size : Int) - 1))).get? b = some o := fun b o e => Heap.get?_push_of_some _ e
  have I2 : Inv X pins σ H1 { s1 with heap := s1.heap.push (revObj a ((its.toArray.size : Int) - 1)) } := I1.kept (t' := s1.toks) k0
  obtain ⟨f0, f1, f2, f3, f4, f5⟩ := I1.fpOk (H' := H1) (b := s1.heap.objs.size) (Nat.le_refl _) (I1.hok.fresh (Nat.le_refl _))
  have hl := p'.isList
  obtain ⟨ol, hol, _⟩ := id hl
  have hne : a ≠ s1.heap.objs.size := Nat.ne_of_lt (Heap.lt_size hol)
  have hn : its.toArray.size ≤ sizeLine := by rw [List.size_toArray, ← rv.length]; exact hz
  refine LRv.call_list_rev (s := { s1 with heap := s1.heap.push (revObj a ((its.toArray.size : Int) - 1)) }) (I1.ok.hd hc) ⟨_, Heap.get?_push_size _ rfl, rfl, rfl⟩ (hl.push _) hne hn fun h' tk acc c' hk e hi => ?_
  have k1 : ∀ b o, s1.heap.get? b = some o → h'.get? b = some o := fun b o e => hk b o (Nat.ne_of_lt (Heap.lt_size e)) (k0 b o e)
  have sz : (s1.heap.push (revObj a ((its.toArray.size : Int) - 1))).objs.size = s1.heap.objs.size + 1 := by simp [Heap.push]
  have fr : H1 (s1.heap.push (revObj a ((its.toArray.size : Int) - 1))).objs.size = none := I1.hok.fresh (by rw [sz]; exact Nat.le_succ _)
  refine ⟨.ref (s1.heap.push (revObj a ((its.toArray.size : Int) - 1))).objs.size, upd H1 (s1.heap.push (revObj a ((its.toArray.size : Int) - 1))).objs.size (.lst xs.reverse), I1.laid (t' := tk) k1 (by rw [sz]; exact Nat.le_succ _) ⟨by rw [List.length_reverse]; exact hz, acc.toList, c', vals_rev rv hi, ?_⟩, rfl, q _ fr⟩
  rw [Array.toArray_toList]
  exact e
end Sp
namespace Sp
open PySem PySem.Spec PyProof.Rows L2
section
variable {K : PySem.W.Frag} {te : TE} {σ : L2.St} {ps R : List HP} {Φ : V → List HP → Prop} {a b : Addr} {xs ys : List V} {ns ms : List Int}
def RevG (K : PySem.W.Frag) (v : V) (ps : List HP) (k : List Int → Prop) : Prop := ∃ (a : Addr) (ns : List Int), v = .ref a ∧ RdL K ps a (ns.map V.int) ∧ k ns
theorem revG {k : List Int → Prop} (h : RdL K ps a (ns.map V.int)) (q : k ns) : RevG K (.ref a) ps k := ⟨a, ns, rfl, h, q⟩
theorem we_lstRev (h : We te σ ps fun x ps1 => RevG K x ps1 fun ns => ∀ p, Φ (.ref p) (pt p (.lst (ns.reverse.map V.int)) :: ps1)) : We (tLstRev K te) σ ps Φ := fun H Q s q =>
  h H _ s fun x ps1 H1 ⟨a, ns, e, rd, k⟩ s1 => ⟨a, ns.map V.int, e, rd.at' s1, fun p hp => by
    rw [← List.map_reverse]
    exact q _ _ _ (k p) (s1.new hp)⟩
theorem w2_catI (h1 : pt a (.lst (ns.map V.int)) ∈ ps) (h2 : pt b (.lst (ms.map V.int)) ∈ ps) (l : ns.length + ms.length ≤ 1000000) (k : ∀ p, Φ (.ref p) (pt p (.lst ((ns ++ ms).map V.int)) :: ps)) : W2 rCat (.ref a) (.ref b) ps Φ :=
  w2_cat h1 h2 (by rw [List.length_map, List.length_map]; exact Nat.le_trans l (by decide)) fun p => by rw [← List.map_append]; exact k p
/-- a list from its second item on -/
theorem wsl_tail (h : RdL K ps a (ns.map V.int)) (k : ∀ p, Φ (.ref p) (pt p (.lst (ns.tail.map V.int)) :: ps)) : Wsl (rSlL K) (.ref a) (some 1) none ps Φ := wsl_L h fun p => by
  have e : cutV (ns.map V.int) (some 1) none = ns.tail.map V.int := by
    cases ns with
    | nil => rfl
    | cons x r =>
      unfold cutV
      have e1 : HT.sIx ((x :: r).map V.int).length 0 (some 1) = 1 := by
        simp [HT.sIx]
      have e2 : HT.sIx ((x :: r).map V.int).length ((x :: r).map V.int).length none = ((x :: r).map V.int).length := rfl
      rw [e1, e2]
      simp only [List.map_cons, List.drop_succ_cons, List.drop_zero, List.length_cons, List.tail_cons, Nat.add_sub_cancel, List.length_map]
      exact List.take_of_length_le (by rw [List.length_map]; exact Nat.le_refl _)
  rw [e]; exact k p
end
end Sp
namespace Sp
open PySem PySem.Spec PyProof.Rows L2
section
variable {ps : List HP} {Φ : V → List HP → Prop} {a b : Addr} {ns : List Int} {x : Int}
theorem w2_catIs (h1 : pt a (.lst (ns.map V.int)) ∈ ps) (h2 : pt b (.lst [.int x]) ∈ ps) (l : ns.length ≤ 1000000) (k : ∀ p, Φ (.ref p) (pt p (.lst ((ns ++ [x]).map V.int)) :: ps)) : W2 rCat (.ref a) (.ref b) ps Φ :=
  w2_cat h1 h2 (by rw [List.length_map]; exact Nat.le_trans (m := 1000001) (by simp; omega) (by decide)) fun p => by rw [snocI]; exact k p
theorem w2_catsI (h1 : pt a (.lst [.int x]) ∈ ps) (h2 : pt b (.lst (ns.map V.int)) ∈ ps) (l : ns.length ≤ 1000000) (k : ∀ p, Φ (.ref p) (pt p (.lst ((x :: ns).map V.int)) :: ps)) : W2 rCat (.ref a) (.ref b) ps Φ :=
  w2_cat h1 h2 (by rw [List.length_map]; exact Nat.le_trans (m := 1000001) (by simp; omega) (by decide)) fun p => k p
end
end Sp

set_option Elab.async false
set_option linter.all false
set_option maxRecDepth 100000
set_option maxHeartbeats 4000000
/-! A tuple times a number, once too. -/
namespace Sp
open PySem PySem.Spec PyProof.Rows L2
theorem tuple_mul1 (l : Addr) (items : Array Value) (n : Nat) (dd : Option Addr) (sl : Array (Option Value)) (u : Tok) :
    Meets (Builtin.«tuple.__mul__» ⟨[.ref l, .int 1 u], []⟩) (fun _ R s => s.heap.get? l = some { cls := .type "tuple", dict := dd, data := .seq items n, slots := sl } ∧
      R (.ok (.ret (Value.ref l))) s) :=
  .of_wp fun prog w A R s h => by
    obtain ⟨hp, g, d, tk, os⟩ := s
    obtain ⟨hl, h⟩ := h
    have f1 := AutoSeq1.idx_int
    have c1 : (items.isEmpty || (1 : Int) == 1) = true := by simp
    wp_walk using wpAny_loadPart' hl
    exact ⟨_, rfl, h⟩
def rRepA (K : PySem.W.Frag) : R2 := fun x y H Q => (y = .int 1 ∧ ∃ l xs, x = .ref l ∧ SqT K H l xs ∧ Q (.ref l) H) ∨ rRepT K x y H Q
theorem op_repA {X : Cx} : OpR X (binaryOp .Mult) (rRepA X.K) := by
  intro pins s σ H x y v u Q I rx ry h
  rcases h with ⟨rfl, l, xs, rfl, hT, q⟩ | h
  · cases rx
    obtain ⟨t, rfl⟩ := ry
    obtain ⟨its, r, ⟨⟨cls, dd, data, sl⟩, ho, hc, n, hd⟩, hs⟩ := I.tuple hT
    simp only at hc hd
    subst hc hd
    refine wpAny_binaryOp_repeat_ref (T := "tuple") (U := "int") (by decide) ⟨_, ho, rfl⟩ (fun s' => typeIs_int s' 1 t) noFill_tuple_mul F.fills_int_mul F.slot_int_rmul repeat_tuple F.slot_int_index.lookup
      (call_meets F.slot_int_rmul (typeIs_int s 1 t) F.entry_int_rmul (F.args_int_rmul_2 _ _) (int_rmul_tuple 1 t l its.toArray n dd sl)
        ⟨ho, rfl, ⟨_, ho, rfl⟩, call_meets F.slot_tuple_mul ⟨_, ho, rfl⟩ F.entry_tuple_mul (F.args_tuple_mul_2 _ _) (tuple_mul1 l its.toArray n dd sl t) ⟨ho, ?_⟩⟩)
    exact ⟨.ref l, H, I, rfl, q⟩
  · exact op_repT pins s σ H x y v u Q I rx ry h
section
variable {K : PySem.W.Frag} {ps : List HP} {Φ : V → List HP → Prop} {a : Addr} {x : Int} {k : Int}
/-- (x,) * k, k not 0 -/
theorem w2_repTI {R : List HP} (pk : Pick (pt a (.tup [.int x])) ps R) (hk : 1 ≤ k ∧ k ≤ 1000) (k1 : ∀ p, Φ (.ref p) (pt p (.tup ((List.replicate k.toNat x).map V.int)) :: R)) : W2 (rRepA K) (.ref a) (.int k) ps Φ := W2.ent (Ent.perm pk.perm) fun H Q s q => by
  have h : RdT K (pt a (.tup [.int x]) :: R) a [.int x] := rdt_pt (List.mem_cons_self ..)
  by_cases h1 : k = 1
  · subst h1
    exact .inl ⟨rfl, a, _, rfl, h.at' s, q _ _ _ (k1 a) s⟩
  · refine .inr ⟨a, k, _, rfl, rfl, h.at' s, by simp, by omega, by omega, by show 1 ≤ 1000; decide, fun p hp => ?_⟩
    have e : (List.replicate k.toNat [V.int x]).flatten = (List.replicate k.toNat x).map V.int := by
      rw [List.map_replicate]
      induction k.toNat with
      | zero => rfl
      | succ j ih => rw [List.replicate_succ, List.flatten_cons, ih, List.replicate_succ]; rfl
    rw [e]
    exact q _ _ _ (k1 p) (((s.new hp).perm (List.Perm.swap _ _ _)).drop)
end
/-! ### records as data -/
def Deed.data : Deed → PyData
  | .one => .tuple [.str "one"] | .count => .tuple [.str "count"] | .set n => .tuple [.str "set", .int n] | .look => .tuple [.str "look"] | .add n => .tuple [.str "add", .int n] | .sum => .tuple [.str "sum"]
  | .raise n => .tuple [.str "raise", .int n] | .top => .tuple [.str "top"] | .give n => .tuple [.str "give", .int n] | .take => .tuple [.str "take"]
def Rec.data (r : Rec) : PyData := .tuple [.int r.hand, r.deed.data, .int r.b, .int r.e, r.an.data]
section
variable {K : PySem.W.Frag} {ps : List HP} {L : List (Addr × List V)} {a p : Addr} {d : Deed} {r : Rec} {as : List Addr} {rs : List Rec}
theorem dp_tup {xs : List V} {ds : List PyData} (h : RdT K ps a xs) (g : RdDs K ps xs ds) : ∀ H, Sat H ps → Dp K H (.ref a) (.tuple ds) := fun H s => .tup (h.at' s) (g.all s)
theorem dp_deed (m : tups L ∈ ps) (h : (a, d.vals) ∈ L) : ∀ H, Sat H ps → Dp K H (.ref a) d.data := by
  cases d <;> exact dp_tup (rdt_tups m h) (by first | exact .cons (fun _ _ => .str _) .nil | exact .cons (fun _ _ => .str _) (.cons (fun _ _ => .int _) .nil))
theorem dp_rec (m : tups L ∈ ps) (h : RecIn L a r) : ∀ H, Sat H ps → Dp K H (.ref a) r.data :=
  dp_tup (rdt_tups m h.1) (.cons (fun _ _ => .int _) (.cons (dp_deed m h.2.1) (.cons (fun _ _ => .int _) (.cons (fun _ _ => .int _) (.cons ((rdd_ansR m h.2.2).dp) .nil)))))
theorem rdds_recs (m : tups L ∈ ps) : ∀ {as : List Addr} {rs : List Rec}, RecsIn L as rs → RdDs K ps (as.map V.ref) (rs.map Rec.data)
  | [], [], _ => .nil
  | [], _ :: _, h => by have := h.1; simp at this
  | _ :: _, [], h => by have := h.1; simp at this
  | a :: as, r :: rs, h => .cons (dp_rec m (h.2 0 a r rfl rfl)) (rdds_recs m ⟨by have := h.1; simpa using this, fun i a r h1 h2 => h.2 (i + 1) a r (by simpa using h1) (by simpa using h2)⟩)
theorem Deed.canLay (d : Deed) : PyData.canLay0 d.data = true := by cases d <;> simp [Deed.data, PyData.canLay0, PyData.canLayAll0] <;> decide +kernel
theorem Ans.canLay (an : Ans) : PyData.canLay0 an.data = true := (Bool.and_eq_true_iff.mp an.shaped).1
theorem Deed.depth (d : Deed) : PyData.depth d.data ≤ 2 := by cases d <;> simp [Deed.data, PyData.depth, PyData.depthAll]
theorem Ans.depth (an : Ans) : PyData.depth an.data ≤ 2 := by
  cases an with
  | non => simp [Ans.data, PyData.depth]
  | int i => simp [Ans.data, PyData.depth]
  | view l => have := depthAll_ints l; simp only [Ans.data, PyData.depth]; omega
theorem Rec.canLay (r : Rec) : PyData.canLay0 r.data = true := by simp [Rec.data, PyData.canLay0, PyData.canLayAll0, Deed.canLay, Ans.canLay]
theorem Rec.depth (r : Rec) : PyData.depth r.data ≤ 4 := by
  have h1 := r.deed.depth
  have h2 := r.an.depth
  simp only [Rec.data, PyData.depth, PyData.depthAll]
  omega
theorem recs_canLay (rs : List Rec) : PyData.canLayAll0 (rs.map Rec.data) = true := by
  induction rs with
  | nil => rfl
  | cons r rs ih => simp [PyData.canLayAll0, Rec.canLay, ih]
theorem recs_depth (rs : List Rec) : PyData.depthAll (rs.map Rec.data) ≤ 4 := by
  induction rs with
  | nil => simp [PyData.depthAll]
  | cons r rs ih => have := r.depth; simp only [List.map, PyData.depthAll]; omega
theorem recs_shaped (rs : List Rec) : SeqAt.shaped (.list (rs.map Rec.data)) = true := by
  have h := recs_depth rs
  unfold SeqAt.shaped
  refine Bool.and_eq_true_iff.mpr ⟨recs_canLay rs, decide_eq_true ?_⟩
  show PyData.depthAll (rs.map Rec.data) + 1 ≤ 64
  omega
theorem rdd_recs (m : tups L ∈ ps) (h : RecsIn L as rs) (rd : RdL K ps a (as.map V.ref)) : RdD K ps (.ref a) (.list (rs.map Rec.data)) := rdd_list rd (rdds_recs m h) (recs_shaped rs)
/-- the list of records and an order, as handed in -/
theorem rdd_handed {q : Addr} {order : List Int} (m : tups L ∈ ps) (h : RecsIn L as rs) (rd : RdL K ps a (as.map V.ref)) (ro : RdL K ps q (order.map V.int)) (rh : RdL K ps p [.ref a, .ref q]) : RdD K ps (.ref p) (.list [.list (rs.map Rec.data), .list (order.map .int)]) :=
  rdd_list rh (.cons (rdd_recs m h rd).dp (.cons (rdd_ints ro).dp .nil)) (by
    have h1 := recs_depth rs
    have h2 := depthAll_ints order
    unfold SeqAt.shaped
    refine Bool.and_eq_true_iff.mpr ⟨?_, decide_eq_true ?_⟩
    · simp [PyData.canLay0, PyData.canLayAll0, recs_canLay, canLay_ints]
    · simp only [PyData.depth, PyData.depthAll]
      omega)
theorem recs_eqNil (rs : List Rec) : PyData.eqv (.list (rs.map Rec.data)) (.list []) = decide (rs = []) := by
  cases rs <;> simp [PyData.eqv, PyData.eqvAll]
end
end Sp
namespace Sp
open PySem L2
theorem RecsIn.set {L : List (Addr × List V)} {as : List Addr} {rs : List Rec} {a : Addr} {r : Rec} {i : Nat} (h : RecsIn L as rs) (hi : i < as.length) (k : RecIn L a r) : RecsIn L (as.set i a) (rs.set i r) := ⟨by simp [h.1], fun j a' r' h1 h2 => by
  by_cases e : i = j
  · subst e
    rw [List.getElem?_set_self hi] at h1
    rw [List.getElem?_set_self (by rw [← h.1]; exact hi)] at h2
    obtain rfl := Option.some.inj h1
    obtain rfl := Option.some.inj h2
    exact k
  · rw [List.getElem?_set_ne e] at h1 h2
    exact h.2 j a' r' h1 h2⟩
end Sp

set_option Elab.async false
set_option linter.all false
set_option maxRecDepth 100000
set_option maxHeartbeats 4000000
/-! C.m(x, ..): a def read off its class. -/
namespace Sp
open PySem PySem.Spec PyProof.Rows L2 ClX
def tClsFn (C : Addr) (sp : L2.Sp) (E : XK) (ta : TE) (t : TA) : TE := fun σ H Q => ta σ H fun x H1 => x = .ref C ∧ t σ H1 fun vs H2 => sp vs H2 Q E
theorem pe_clsfn {X : Cx} {CX : CXT} {k : Nat} {f C : Addr} {mc : Value} {fd : FuncData} {ps : List Str} {sp : L2.Sp} {E : XK} {m : Str} {pos apos : Pos} {e o : Expr} {es : List Expr} {ta : TE} {t : TA} {pl : Sem Bool} (he : PE X o ta) (r : CRead X.K C mc)
    (at_ : PySem.W.findCls X.K (.ref C) mc m = some (.val (.ref f))) (kk : PySem.W.keepIn X.K (.ref f) = true)
    (F : FnOk X.prog X.w X.K X.mg X.base CX k f fd ps sp) (hr : Room k X.A) (hb : Binds X.K fd ps []) (hx : Passes CX X E) (ha : PA X (e :: es) t)
    (hst : starEach (e :: es) X.env = (false, eval e X.env) :: starEach es X.env := by rfl) (hpl : (backTo pos (starEach es X.env)).any (·.1) = false := by rfl)
    (ht : eval (.Call (.Attribute o m apos) (e :: es) [] pos) X.env = (do
      let ov ← eval o X.env
      standAt apos.atName
      let (f, first) ← holding [ov] (getMethod ov m pl)
      callWith pos f first (backTo pos (starEach (e :: es) X.env)) (backToKw pos (keywordEach [] X.env))) := by rfl) :
    PE X (.Call (.Attribute o m apos) (e :: es) [] pos) (tClsFn C sp E ta t) := by
  refine ⟨fun pins s σ H Q I h => ?_⟩
  refine PySem.W.methodCall_KW (pl := pl) (thn (he.run pins s σ H _ I h) fun u s1 ⟨x, H1, I1, rx, ex, q⟩ => ?_) ht
  subst ex
  obtain rfl : u = Value.ref C := rx
  refine PySem.W.method_cls I1.kIn r.ga (PySem.W.cls_value I1.kIn r.rd at_ (handed_of (v := .ref f) rfl) ?_)
  have I2 := I1.tok (s1.toks + 1)
  refine PySem.W.callWith_K (first := []) (h₀ := X.base) I2.ok.mod.kin kk (thn (ha.run pos pins _ σ H1 _ I2 q) fun us s2 ⟨vs, H2, I3, rv, q2⟩ => ⟨I3.kIn, ?_⟩) hst hpl
  have e1 : vs ++ [] = vs := List.append_nil vs
  exact run_fn (us := us) (vs := vs) (ds := []) (dvs := []) F hr hb .nil hx I3 rv (by rw [e1]; exact q2)
end Sp
namespace Sp
open PySem L2
section
variable {te : TE} {tr : TA} {σ : L2.St} {ps : List HP} {Φ : V → List HP → Prop} {C : Addr} {E : XK}
def ClsG (C : Addr) (x : V) (k : Prop) : Prop := x = .ref C ∧ k
theorem clsG {k : Prop} (h : k) : ClsG C (.ref C) k := ⟨rfl, h⟩
theorem we_clsfn {S : SP} (h : We te σ ps fun x ps1 => ClsG C x (Wa tr σ ps1 fun vs ps2 => S vs ps2 Φ)) : We (tClsFn C (spS S) E te tr) σ ps Φ := fun H Q s q =>
  h H _ s fun x ps1 H1 ⟨e, k⟩ s1 => ⟨e, k H1 _ s1 fun vs ps2 H2 k2 s2 => ⟨ps2, Φ, s2, k2, q⟩⟩
end
end Sp

set_option Elab.async false
set_option linter.all false
set_option maxRecDepth 100000
set_option maxHeartbeats 4000000
/-! Dicts whose keys are tuples that hold tuples (HO.ext: the dict's own entries; the keys' tuples lie in the pool). -/
namespace Sp
open PySem PySem.Spec PyProof.Rows L2
abbrev NEnt := NestedKey × Addr × Value
/-- the dict's own object -/
def RawN (P : Program) (w : World) (d : Addr) (xs : List NEnt) : Heap → Prop := fun h => (d == sysModules) = false ∧ ∃ o es ep, h.get? d = some o ∧ o.ExactDict ∧ o.data = .dict es ep ∧ es.toList = xs.map (entryOfKey (nestedKind P w)) ∧ (xs.map (·.1)).Nodup
def dN (P : Program) (w : World) (d : Addr) (xs : List NEnt) : HO := .ext (RawN P w d xs)
theorem dN_ok {P : Program} {w : World} {H : Hp} {h : Heap} {d : Addr} {xs : List NEnt} (x : RawN P w d xs h) : ObjOk P w H h d (dN P w d xs) := by
  refine ⟨x, ?_, ?_⟩
  · obtain ⟨_, o, _, _, e, _⟩ := x; exact ⟨o, e⟩
  · rintro h1 h2 ⟨z, o, es, ep, e, r⟩ k
    exact ⟨z, o, es, ep, k o e, r⟩
mutual
/-- the value is the key -/
inductive NV (H : Hp) : NestedKey → V → Prop
  | non : NV H .none .non
  | num (i : Int) : NV H (.num i) (.int i)
  | tup {a : Addr} {vs : List V} {ks : List NestedKey} : H a = some (.tup vs) → NVs H ks vs → NV H (.tup ks) (.ref a)
inductive NVs (H : Hp) : List NestedKey → List V → Prop
  | nil : NVs H [] []
  | cons {k : NestedKey} {v : V} {ks : List NestedKey} {vs : List V} : NV H k v → NVs H ks vs → NVs H (k :: ks) (v :: vs)
end
mutual
theorem nv_is {P : Program} {w : World} {H : Hp} {h : Heap} (ok : HOk P w H h) : ∀ (k : NestedKey) (v : V) (u : Value), NV H k v → RelV v u → NestedIs h k u
  | .none, _, u, hx, r => by
    cases hx
    cases (show u = Value.none from r)
    exact .none
  | .num i, _, u, hx, r => by
    cases hx
    obtain ⟨t, rfl⟩ := (show ∃ t, u = Value.int i t from r)
    exact .int i t
  | .text x, _, _, hx, _ => by cases hx
  | .tup ks, _, u, hx, r => by
    cases hx with
    | @tup a vs _ e hs =>
      cases (show u = Value.ref a from r)
      obtain ⟨_, its, rv, o, h1, h2, n, h3⟩ := (show ObjOk P w H h a (.tup vs) from ok a _ e)
      exact .tup h1 h2 h3 (by simpa using nvs_is ok ks vs its hs rv)
theorem nvs_is {P : Program} {w : World} {H : Hp} {h : Heap} (ok : HOk P w H h) : ∀ (ks : List NestedKey) (vs : List V) (us : List Value), NVs H ks vs → Vals vs us → NestedAll h ks us
  | [], _, us, hx, r => by
    cases hx
    cases r
    exact .nil
  | k :: ks, _, us, hx, r => by
    cases hx with
    | cons h1 h2 =>
      cases r with
      | cons r1 r2 => exact .cons (nv_is ok k _ _ h1 r1) (nvs_is ok ks _ _ h2 r2)
end
def NKey (H : Hp) (k : NestedKey) (a : Addr) : Prop := NV H k (.ref a) ∧ k.depth ≤ 8
theorem NKey.is {P : Program} {w : World} {H : Hp} {h : Heap} {k : NestedKey} {a : Addr} (ok : HOk P w H h) (x : NKey H k a) : (nestedKind P w).is h k a := ⟨nv_is ok k _ _ x.1 rfl, x.2⟩
theorem raw_dict {P : Program} {w : World} {H : Hp} {h : Heap} {d : Addr} {xs : List NEnt} (ok : HOk P w H h) (e : H d = some (dN P w d xs)) (hx : ∀ x ∈ xs, NKey H x.1 x.2.1) : (d == sysModules) = false ∧ h.DictOfH (nestedKind P w) d xs := by
  obtain ⟨⟨z, o, es, ep, h1, h2, h3, h4, h5⟩, _⟩ := (show ObjOk P w H h d (dN P w d xs) from ok d _ e)
  exact ⟨z, o, es, ep, h1, h2, h3, h4, fun x m => (hx x m).is ok, h5⟩
/-- key in d -/
def rInN (P : Program) (w : World) : R2 := fun x y H Q => ∃ (a d : Addr) (k : NestedKey) (xs : List NEnt), x = .ref a ∧ y = .ref d ∧ H d = some (dN P w d xs) ∧ (∀ e ∈ xs, NKey H e.1 e.2.1) ∧ NKey H k a ∧ Q (.bl (atKey xs k).isSome) H
theorem op_inN {X : Cx} (hu : X.A.units + 65 < cLine) : OpR X (compareOp .In) (rInN X.prog X.w) := by
  intro pins s σ H x y v u Q I rx ry h
  obtain ⟨a, d, k, xs, rfl, rfl, hd, hx, hk, q⟩ := h
  cases (show v = Value.ref a from rx)
  cases (show u = Value.ref d from ry)
  obtain ⟨hs, hm⟩ := raw_dict I.hok hd hx
  refine wpAny_in_heap (knd := nestedKind X.prog X.w) (k := k) (by show X.A.units + 1 + 8 < cLine; omega) (hk.is I.hok) hs hm ?_
  exact ⟨.bl _, H, I.tok _, rfl, q⟩
/-- d[key] = True -/
def rSetN (P : Program) (w : World) : TSet := fun o i v H Q => ∃ (d a : Addr) (k : NestedKey) (xs : List NEnt) (b : Bool), o = .ref d ∧ i = .ref a ∧ v = .bl b ∧ H d = some (dN P w d xs) ∧ (∀ e ∈ xs, NKey H e.1 e.2.1) ∧ NKey H k a ∧ xs.length ≤ sizeLine ∧ Q (upd H d (dN P w d (storedH xs k a (.bool b))))
theorem set_nest {X : Cx} (hu : X.A.units + 65 < cLine) : PSet X (rSetN X.prog X.w) := by
  intro pins s σ H o i v ov iv u Q I ro ri rv h
  obtain ⟨d, a, k, xs, b, rfl, rfl, rfl, hd, hx, hk, hl, q⟩ := h
  cases (show ov = Value.ref d from ro)
  cases (show iv = Value.ref a from ri)
  cases (show u = Value.bool b from rv)
  obtain ⟨hs, hm⟩ := raw_dict I.hok hd hx
  refine wpAny_setItem_heap (knd := nestedKind X.prog X.w) (k := k) (by show X.A.units + 1 + 8 < cLine; omega) (hk.is I.hok) hm (fun h' dd' hsb => ?_) hl
  obtain ⟨o, es, ep, hq, h2, h3, h4, _, h5⟩ := dd'
  exact ⟨_, d_write I (by rw [hd]; exact True.intro) hsb ⟨o, hq⟩ (dN_ok ⟨hs, o, es, ep, hq, h2, h3, h4, h5⟩), q⟩
/-- {} -/
def tDNewN (P : Program) (w : World) : TE := fun _ H Q => ∀ p, H p = none → Q (.ref p) (upd H p (dN P w p []))
theorem pe_dnewN {X : Cx} {pos : Pos} : PE X (.Dict [] [] pos) (tDNewN X.prog X.w) := ⟨fun pins s σ H Q I h =>
  wpAny_Dict_empty ⟨.ref s.heap.objs.size, _, I.laid (a := s.heap.objs.size) (o := dN X.prog X.w s.heap.objs.size []) (t' := s.toks) (fun _ _ q => Heap.get?_push_of_some _ q) (Nat.le_refl _)
    (dN_ok ⟨beq_eq_false_iff_ne.mpr (Ne.symm (Nat.ne_of_lt I.big)), _, #[], 0, Heap.get?_push_size _ rfl, ⟨rfl, rfl, rfl⟩, rfl, rfl, List.nodup_nil⟩), rfl, h _ (I.hok.fresh (Nat.le_refl _))⟩⟩
/-! ### over symbolic heaps -/
/-- a key of the search: what is left, and the state -/
def keyN (left : List Int) (s : Pst) : NestedKey := .tup [.tup (left.map .num), .tup [.num s.ones, .tup (s.cells.map .num), .tup (s.sums.map .num), .tup (s.tops.map .num), .tup (s.line.map .num)]]
theorem nums_inj : ∀ {a b : List Int}, a.map NestedKey.num = b.map NestedKey.num → a = b
  | [], [], _ => rfl
  | [], _ :: _, h => by simp at h
  | _ :: _, [], h => by simp at h
  | x :: a, y :: b, h => by
    simp only [List.map_cons, List.cons.injEq, NestedKey.num.injEq] at h
    rw [h.1, nums_inj h.2]
theorem keyN_inj {a b : List Int} {s t : Pst} (h : keyN a s = keyN b t) : a = b ∧ s = t := by
  obtain ⟨s1, s2, s3, s4, s5⟩ := s
  obtain ⟨t1, t2, t3, t4, t5⟩ := t
  simp only [keyN, NestedKey.tup.injEq, List.cons.injEq, NestedKey.num.injEq, and_true] at h
  obtain ⟨h0, h1, h2, h3, h4, h5⟩ := h
  refine ⟨nums_inj h0, ?_⟩
  rw [h1, nums_inj h2, nums_inj h3, nums_inj h4, nums_inj h5]
theorem nums_depth : ∀ a : List Int, NestedKey.depthAll (a.map NestedKey.num) = 0
  | [] => rfl
  | _ :: a => by simp [NestedKey.depthAll, NestedKey.depth, nums_depth a]
theorem keyN_depth (a : List Int) (s : Pst) : (keyN a s).depth ≤ 8 := by
  simp [keyN, NestedKey.depth, NestedKey.depthAll, nums_depth]
theorem nvs_ints {H : Hp} : ∀ a : List Int, NVs H (a.map NestedKey.num) (a.map V.int)
  | [] => .nil
  | x :: a => .cons (.num x) (nvs_ints a)
/-- its tuples lie in the pool -/
def KeyIn (L : List (Addr × List V)) (k : NestedKey) (a : Addr) : Prop := ∃ (left : List Int) (s : Pst) (a1 a2 c1 c2 c3 c4 : Addr), k = keyN left s ∧ (a, [V.ref a1, .ref a2]) ∈ L ∧ (a1, left.map V.int) ∈ L ∧ (a2, [V.int s.ones, .ref c1, .ref c2, .ref c3, .ref c4]) ∈ L ∧ (c1, s.cells.map V.int) ∈ L ∧ (c2, s.sums.map V.int) ∈ L ∧ (c3, s.tops.map V.int) ∈ L ∧ (c4, s.line.map V.int) ∈ L
theorem KeyIn.mono {L L' : List (Addr × List V)} {k : NestedKey} {a : Addr} (h : KeyIn L k a) (z : ∀ x ∈ L, x ∈ L') : KeyIn L' k a := by
  obtain ⟨left, s, a1, a2, c1, c2, c3, c4, e, h1, h2, h3, h4, h5, h6, h7⟩ := h
  exact ⟨left, s, a1, a2, c1, c2, c3, c4, e, z _ h1, z _ h2, z _ h3, z _ h4, z _ h5, z _ h6, z _ h7⟩
theorem pool_at {H : Hp} {ps : List HP} {L : List (Addr × List V)} {a : Addr} {xs : List V} (s : Sat H ps) (m : tups L ∈ ps) (h : (a, xs) ∈ L) : H a = some (.tup xs) := by
  obtain ⟨l1, l2, rfl⟩ := List.append_of_mem m
  have p : (l1 ++ tups L :: l2).Perm (tups L :: (l1 ++ l2)) := List.perm_middle
  have s2 := s.perm p
  unfold tups at s2
  exact (Sat.grp.mp s2).get (List.mem_append.mpr (.inl (List.mem_map.mpr ⟨(a, xs), h, rfl⟩)))
theorem KeyIn.key {H : Hp} {ps : List HP} {L : List (Addr × List V)} {k : NestedKey} {a : Addr} (h : KeyIn L k a) (s : Sat H ps) (m : tups L ∈ ps) : NKey H k a := by
  obtain ⟨left, st, a1, a2, c1, c2, c3, c4, rfl, h1, h2, h3, h4, h5, h6, h7⟩ := h
  exact ⟨.tup (pool_at s m h1) (.cons (.tup (pool_at s m h2) (nvs_ints _)) (.cons (.tup (pool_at s m h3) (.cons (.num _) (.cons (.tup (pool_at s m h4) (nvs_ints _)) (.cons (.tup (pool_at s m h5) (nvs_ints _)) (.cons (.tup (pool_at s m h6) (nvs_ints _)) (.cons (.tup (pool_at s m h7) (nvs_ints _)) .nil)))))) .nil)), keyN_depth _ _⟩
def KeysIn (L : List (Addr × List V)) (xs : List NEnt) : Prop := ∀ x ∈ xs, KeyIn L x.1 x.2.1
theorem KeysIn.mono {L L' : List (Addr × List V)} {xs : List NEnt} (h : KeysIn L xs) (z : ∀ x ∈ L, x ∈ L') : KeysIn L' xs := fun x m => (h x m).mono z
theorem stored_mem {xs : List NEnt} {k : NestedKey} {a : Addr} {v : Value} {y : NEnt} (h : y ∈ storedH xs k a v) : (∃ x ∈ xs, y.1 = x.1 ∧ y.2.1 = x.2.1) ∨ (y.1 = k ∧ y.2.1 = a) := by
  unfold storedH at h
  split at h
  · obtain ⟨x, hx, rfl⟩ := List.mem_map.mp h
    refine .inl ⟨x, hx, ?_⟩
    unfold putAt
    split <;> exact ⟨rfl, rfl⟩
  · rcases List.mem_append.mp h with m | m
    · exact .inl ⟨y, m, rfl, rfl⟩
    · rw [List.mem_singleton.mp m]; exact .inr ⟨rfl, rfl⟩
theorem stored_len {xs : List NEnt} {k : NestedKey} {a : Addr} {v : Value} : (storedH xs k a v).length ≤ xs.length + 1 := by
  unfold storedH
  split <;> simp
theorem at_mem {xs : List NEnt} {k : NestedKey} (h : (atKey xs k).isSome = true) : ∃ x ∈ xs, x.1 = k := by
  unfold atKey at h
  rw [Option.isSome_map] at h
  obtain ⟨x, hx⟩ := Option.isSome_iff_exists.mp h
  exact ⟨x, List.mem_of_find?_eq_some hx, by simpa using List.find?_some hx⟩
section
variable {P : Program} {w : World} {ps ps' : List HP} {L : List (Addr × List V)} {d a : Addr} {k : NestedKey} {xs : List NEnt} {Φ : V → List HP → Prop} {σ : L2.St}
theorem w2_inN (m : tups L ∈ ps) (hd : pt d (dN P w d xs) ∈ ps) (hx : KeysIn L xs) (hk : KeyIn L k a) (q : Φ (.bl (atKey xs k).isSome) ps) : W2 (rInN P w) (.ref a) (.ref d) ps Φ := fun H Q s q' =>
  ⟨a, d, k, xs, rfl, rfl, s.get hd, fun x mx => (hx x mx).key s m, hk.key s m, q' _ _ _ q s⟩
theorem wst_N {b : Bool} {Ψ : List HP → Prop} (m : tups L ∈ ps) (r : Rep (pt d (dN P w d xs)) (pt d (dN P w d (storedH xs k a (.bool b)))) ps ps') (hx : KeysIn L xs) (hk : KeyIn L k a) (hl : xs.length ≤ sizeLine) (q : Ψ ps') : Wst (rSetN P w) (.ref d) (.ref a) (.bl b) ps Ψ := fun H Q s q' =>
  ⟨d, a, k, xs, b, rfl, rfl, rfl, s.get r.mem, fun x mx => (hx x mx).key s m, hk.key s m, hl, q' _ _ q (s.rep r)⟩
theorem we_dnewN (q : ∀ p, Φ (.ref p) (pt p (dN P w p []) :: ps)) : We (tDNewN P w) σ ps Φ := fun H Q s q' p hp => q' _ _ _ (q p) (s.new hp)
end
theorem u65n {k : Nat} {A : Around} (r : Room k A) : A.units + 65 < cLine := by have := r.un; omega
theorem Wa.ent' {ta : TA} {σ : L2.St} {ps ps' : List HP} {Φ : List V → List HP → Prop} (e : Ent ps ps') (h : Wa ta σ ps' Φ) : Wa ta σ ps Φ := fun H Q s k => h H Q (e H s) k
end Sp

set_option Elab.async false
set_option linter.all false
set_option maxRecDepth 100000
set_option maxHeartbeats 4000000
/-! The search for an order: what it must find. -/
namespace Mir
open Sp
/-- a record that ended before what stands ahead began -/
theorem kgo_lowS {rs : List Rec} {p : Int} {r : Rec} (hr : rs[p.toNat]? = some r) : ∀ {O : List Int} {s : Pst} {l : Int}, p ∈ O → r.e < l → kgo rs O s l = false
  | [], _, _, h, _ => by simp at h
  | o :: O, s, l, h, hl => by
    unfold kgo
    cases ho : rs[o.toNat]? with
    | none => rfl
    | some q =>
      dsimp only
      split
      · rfl
      · rename_i hn
        rcases List.mem_cons.mp h with z | z
        · subst z
          rw [hr] at ho
          have ho := Option.some.inj ho
          subst ho
          exact absurd (Or.inl hl) hn
        · exact kgo_lowS hr z (by omega)
/-- some order of what is left keeps it behind the state -/
def Has (rs : List Rec) (s : Pst) (left : List Int) : Prop := ∃ (O : List Int) (l : Int), O.Perm left ∧ kgo rs O s l = true
/-- an order found -/
def Fnd (rs : List Rec) (s : Pst) (left O : List Int) : Prop := O.Perm left ∧ ∀ l : Int, (∀ p ∈ left, ∀ r, rs[p.toNat]? = some r → l ≤ r.e) → kgo rs O s l = true
/-- what is left: places, each once -/
def Lf (rs : List Rec) (left : List Int) : Prop := left.Nodup ∧ ∀ p ∈ left, 0 ≤ p ∧ p < rs.length
/-- may go first -/
def First (rs : List Rec) (left : List Int) (r : Rec) : Prop := ∀ q ∈ left, ∀ t, rs[q.toNat]? = some t → r.b ≤ t.e
def less (left : List Int) (p : Int) : List Int := left.filter fun q => !decide (q = p)
theorem less_perm : ∀ {left : List Int} {p : Int}, left.Nodup → p ∈ left → (p :: less left p).Perm left
  | [], _, _, h => by simp at h
  | x :: l, p, nd, h => by
    obtain ⟨n1, n2⟩ := List.nodup_cons.mp nd
    by_cases e : x = p
    · subst e
      have : less (x :: l) x = l := by
        unfold less
        rw [List.filter_cons, if_neg (by simp)]
        exact List.filter_eq_self.mpr fun q hq => by
          have : q ≠ x := fun z => n1 (z ▸ hq)
          simp [this]
      rw [this]
    · have hp : p ∈ l := (List.mem_cons.mp h).resolve_left fun z => e z.symm
      have : less (x :: l) p = x :: less l p := by
        unfold less
        rw [List.filter_cons, if_pos (by simp [e])]
      rw [this]
      exact (List.Perm.swap _ _ _).trans ((less_perm n2 hp).cons _)
theorem Lf.get {rs : List Rec} {left : List Int} (h : Lf rs left) {p : Int} (m : p ∈ left) : ∃ r, rs[p.toNat]? = some r := by
  have := h.2 p m
  exact ⟨_, List.getElem?_eq_getElem (by omega)⟩
theorem Lf.less {rs : List Rec} {left : List Int} (h : Lf rs left) (p : Int) : Lf rs (less left p) :=
  ⟨h.1.filter _, fun q hq => h.2 q (List.mem_filter.mp hq).1⟩
theorem less_len {left : List Int} {p : Int} (nd : left.Nodup) (m : p ∈ left) : (less left p).length + 1 = left.length := by
  have := (less_perm nd m).length_eq
  simpa using this
theorem fnd_nil {rs : List Rec} {s : Pst} : Fnd rs s [] [] := ⟨.refl _, fun _ _ => rfl⟩
theorem fnd_cons {rs : List Rec} {s : Pst} {left O : List Int} {p : Int} {r : Rec} (lf : Lf rs left) (m : p ∈ left) (hr : rs[p.toNat]? = some r) (hf : First rs left r) (ha : s.ans r.deed = r.an) (h : Fnd rs (s.done r.hand r.deed) (less left p) O) : Fnd rs s left (p :: O) := by
  refine ⟨(h.1.cons p).trans (less_perm lf.1 m), fun l hl => ?_⟩
  unfold kgo
  rw [hr]
  dsimp only
  have h1 := hl p m r hr
  rw [if_neg (by rintro (z | z); · omega
                 · exact z ha)]
  refine h.2 _ fun q hq t ht => ?_
  have hq := (List.mem_filter.mp hq).1
  have h2 := hl q hq t ht
  have h3 := hf q hq t ht
  omega
/-- what an order says of its first one -/
theorem has_first {rs : List Rec} {s : Pst} {left : List Int} (hb : ∀ r ∈ rs, r.b ≤ r.e) (lf : Lf rs left) (hne : left ≠ []) (h : Has rs s left) : ∃ p ∈ left, ∃ r, rs[p.toNat]? = some r ∧ First rs left r ∧ s.ans r.deed = r.an ∧ Has rs (s.done r.hand r.deed) (less left p) := by
  obtain ⟨O, l, hp, hk⟩ := h
  cases O with
  | nil => exact absurd hp.symm.eq_nil hne
  | cons p O =>
    have m : p ∈ left := hp.mem_iff.mp (List.mem_cons_self ..)
    obtain ⟨r, hr⟩ := lf.get m
    unfold kgo at hk
    rw [hr] at hk
    dsimp only at hk
    split at hk
    · exact absurd hk Bool.false_ne_true
    · rename_i hn
      have ha : s.ans r.deed = r.an := Classical.byContradiction fun z => hn (.inr z)
      have hp2 : O.Perm (less left p) := List.Perm.cons_inv (hp.trans (less_perm lf.1 m).symm)
      refine ⟨p, m, r, hr, fun q hq t ht => ?_, ha, O, _, hp2, hk⟩
      rcases List.mem_cons.mp (hp.mem_iff.mpr hq) with e | hq2
      · subst e
        rw [hr] at ht
        have ht := Option.some.inj ht
        subst ht
        exact hb r (List.mem_of_getElem? hr)
      · by_cases z : t.e < max l r.b
        · rw [kgo_lowS ht hq2 z] at hk; exact absurd hk Bool.false_ne_true
        · omega
theorem keeps_has {rs : List Rec} {O : List Int} {m : Nat} (h : keepsF rs O m = true) : Has rs (Pst.new m) (upto rs.length) := by
  unfold keepsF at h
  obtain ⟨h1, h2⟩ := Bool.and_eq_true_iff.mp h
  exact ⟨O, -1, of_decide_eq_true h1, h2⟩
theorem fnd_keeps {rs : List Rec} {O : List Int} {m : Nat} (he : ∀ r ∈ rs, -1 ≤ r.e) (h : Fnd rs (Pst.new m) (upto rs.length) O) : keepsF rs O m = true := by
  unfold keepsF
  rw [h.2 (-1) fun p _ r hr => he r (List.mem_of_getElem? hr), Bool.and_true]
  exact decide_eq_true h.1
theorem lf_upto (rs : List Rec) : Lf rs (upto rs.length) := by
  refine ⟨?_, fun p hp => ?_⟩
  · unfold upto
    rw [List.Nodup, List.pairwise_map]
    exact (List.nodup_range (n := rs.length)).imp fun h z => h (by omega)
  · obtain ⟨i, hi, rfl⟩ := List.mem_map.mp hp
    have := List.mem_range.mp hi
    omega
/-- how many states may be noted -/
def cntS : Nat → Nat
  | 0 => 0
  | n + 1 => 1 + (n + 1) * cntS n
theorem cntS_mono : ∀ {a b : Nat}, a ≤ b → cntS a ≤ cntS b
  | a, 0, h => by have : a = 0 := by omega
                  subst this; exact Nat.le_refl _
  | a, b + 1, h => by
    rcases Nat.lt_or_eq_of_le h with z | z
    · refine Nat.le_trans (cntS_mono (Nat.le_of_lt_succ z)) ?_
      show cntS b ≤ 1 + (b + 1) * cntS b
      have : 1 * cntS b ≤ (b + 1) * cntS b := Nat.mul_le_mul_right _ (by omega)
      omega
    · subst z; exact Nat.le_refl _
end Mir

set_option Elab.async false
set_option linter.all false
set_option maxRecDepth 100000
set_option maxHeartbeats 4000000
/-! An order for records in another row. -/
namespace Mir
open Sp
theorem upto_succ (n : Nat) : upto (n + 1) = 0 :: (upto n).map (· + 1) := by
  unfold upto
  rw [List.range_succ_eq_map, List.map_cons, List.map_map, List.map_map]
  congr 1
theorem upto_get {n i : Nat} (h : i < n) : (upto n)[i]? = some (i : Int) := by
  unfold upto
  rw [List.getElem?_map, List.getElem?_range h]; rfl
theorem upto_map_get {α : Type} (l : List α) : (upto l.length).map (fun p => l[p.toNat]?) = l.map some := by
  induction l with
  | nil => rfl
  | cons x l ih =>
    rw [List.length_cons, upto_succ, List.map_cons, List.map_map, List.map_cons]
    congr 1
    rw [← ih]
    refine List.map_congr_left fun p hp => ?_
    obtain ⟨i, _, rfl⟩ := List.mem_map.mp hp
    have : ((i : Int) + 1).toNat = i + 1 := by omega
    simp [this]
theorem ex_places {α : Type} {q rs : List α} (h : q.Perm rs) : ∃ O : List Int, O.Perm (upto rs.length) ∧ O.map (fun p => rs[p.toNat]?) = q.map some := by
  induction h with
  | nil => exact ⟨[], .refl _, rfl⟩
  | @cons x q rs _ ih =>
    obtain ⟨O, h1, h2⟩ := ih
    refine ⟨0 :: O.map (· + 1), ?_, ?_⟩
    · rw [List.length_cons, upto_succ]
      exact (h1.map _).cons _
    · rw [List.map_cons, List.map_map, List.map_cons]
      congr 1
      rw [← h2]
      refine List.map_congr_left fun p hp => ?_
      obtain ⟨i, _, rfl⟩ := List.mem_map.mp (h1.mem_iff.mp hp)
      have : ((i : Int) + 1).toNat = i + 1 := by omega
      simp [this]
  | swap x y l =>
    refine ⟨1 :: 0 :: ((upto l.length).map (· + 1)).map (· + 1), ?_, ?_⟩
    · rw [List.length_cons, List.length_cons, upto_succ, upto_succ, List.map_cons]
      exact .swap _ _ _
    · rw [List.map_cons, List.map_cons, List.map_map, List.map_map, List.map_cons, List.map_cons, ← upto_map_get]
      congr 2
      refine List.map_congr_left fun p hp => ?_
      obtain ⟨i, _, rfl⟩ := List.mem_map.mp hp
      have : ((i : Int) + 1 + 1).toNat = i + 2 := by omega
      simp [this]
  | @trans a b c h1 h2 ih1 ih2 =>
    obtain ⟨O1, p1, e1⟩ := ih1
    obtain ⟨O2, p2, e2⟩ := ih2
    have hl : O2.length = b.length := by
      have := congrArg List.length e2
      simpa using this
    refine ⟨O1.map fun p => O2.getD p.toNat 0, ?_, ?_⟩
    · have h3 : ((upto b.length).map fun p => O2.getD p.toNat 0) = O2 := by
        refine List.ext_getElem? fun i => ?_
        rw [List.getElem?_map]
        by_cases hi : i < b.length
        · rw [upto_get hi, List.getElem?_eq_getElem (by omega)]
          show some (O2.getD ((i : Int).toNat) 0) = _
          rw [Int.toNat_natCast, List.getD_eq_getElem?_getD, List.getElem?_eq_getElem (by omega)]; rfl
        · rw [List.getElem?_eq_none (by simp [upto]; omega), List.getElem?_eq_none (by omega)]; rfl
      have h4 := p1.map fun p => O2.getD p.toNat 0
      rw [h3] at h4
      exact h4.trans p2
    · rw [List.map_map, ← e1]
      refine List.map_congr_left fun p hp => ?_
      obtain ⟨i, hi, rfl⟩ := List.mem_map.mp (p1.mem_iff.mp hp)
      have hi := List.mem_range.mp hi
      have e3 : (O2.map fun p => c[p.toNat]?)[i]? = (b.map some)[i]? := by rw [e2]
      rw [List.getElem?_map, List.getElem?_map, List.getElem?_eq_getElem (by omega), List.getElem?_eq_getElem (by omega)] at e3
      have e3 : c[(O2[i]'(by omega)).toNat]? = some (b[i]'hi) := Option.some.inj e3
      show c[(O2.getD ((i : Int).toNat) 0).toNat]? = b[(i : Int).toNat]?
      rw [Int.toNat_natCast, List.getD_eq_getElem?_getD, List.getElem?_eq_getElem (show i < O2.length by omega)]
      show c[(O2[i]).toNat]? = _
      rw [e3, List.getElem?_eq_getElem hi]
/-- the same over the records themselves -/
def kgoR : List Rec → Pst → Int → Bool
  | [], _, _ => true
  | q :: r, s, l => if q.e < l ∨ s.ans q.deed ≠ q.an then false else kgoR r (s.done q.hand q.deed) (max l q.b)
theorem kgo_R {rs : List Rec} : ∀ {O : List Int} {q : List Rec} {s : Pst} {l : Int}, O.map (fun p => rs[p.toNat]?) = q.map some → kgo rs O s l = kgoR q s l
  | [], [], _, _, _ => rfl
  | [], _ :: _, _, _, h => by simp at h
  | _ :: _, [], _, _, h => by simp at h
  | p :: O, x :: q, s, l, h => by
    simp only [List.map_cons, List.cons.injEq] at h
    unfold kgo kgoR
    rw [h.1]
    dsimp only
    rw [kgo_R h.2]
theorem has_R {rs : List Rec} {s : Pst} : Has rs s (upto rs.length) ↔ ∃ (q : List Rec) (l : Int), q.Perm rs ∧ kgoR q s l = true := by
  constructor
  · rintro ⟨O, l, hp, hk⟩
    have hm : ∀ p ∈ O, ∃ r, rs[p.toNat]? = some r := fun p hm => (lf_upto rs).get (hp.mem_iff.mp hm)
    have : ∃ q : List Rec, O.map (fun p => rs[p.toNat]?) = q.map some := by
      clear hp hk
      induction O with
      | nil => exact ⟨[], rfl⟩
      | cons p O ih =>
        obtain ⟨q, hq⟩ := ih fun x hx => hm x (List.mem_cons_of_mem _ hx)
        obtain ⟨r, hr⟩ := hm p (List.mem_cons_self ..)
        exact ⟨r :: q, by rw [List.map_cons, List.map_cons, hr, hq]⟩
    obtain ⟨q, hq⟩ := this
    refine ⟨q, l, ?_, by rw [← kgo_R hq]; exact hk⟩
    have h1 := hp.map fun p => rs[p.toNat]?
    rw [hq, upto_map_get] at h1
    have h2 := h1.filterMap id
    simpa [List.filterMap_map, Function.comp_def] using h2
  · rintro ⟨q, l, hp, hk⟩
    obtain ⟨O, h1, h2⟩ := ex_places hp
    exact ⟨O, l, h1, by rw [kgo_R h2]; exact hk⟩
theorem has_perm {rs rs' : List Rec} {s : Pst} (h : rs.Perm rs') (k : Has rs s (upto rs.length)) : Has rs' s (upto rs'.length) := by
  obtain ⟨q, l, h1, h2⟩ := has_R.mp k
  exact has_R.mpr ⟨q, l, h1.trans h, h2⟩
theorem swap_perm {α : Type} {l : List α} {i j : Nat} (hi : i < l.length) (hj : j < l.length) : ((l.set i l[j]).set j l[i]).Perm l := List.set_set_perm hi hj
end Mir

set_option Elab.async false
set_option linter.all false
set_option maxRecDepth 100000
set_option maxHeartbeats 4000000
namespace My
open PySem PySem.Spec PyProof.Rows L2 Sp
def topS (i : Nat) : Stmt := PySem.Challenge.pw_stillhands_k25_whole_none_where_there_is.main.body.getD i (.Pass ⟨0, 0, 0, 0⟩)
abbrev s_Plain_init : Stmt := inClass (topS 4) 0
abbrev n_Plain_init : List Str := ["self", "many"]
theorem sc_Plain_init : FnScope n_Plain_init ["self", "many"] (defScope s_Plain_init) := ⟨rfl, rfl, rfl, by decide +kernel, rfl, by decide +kernel, by decide +kernel⟩
abbrev s_Plain_done : Stmt := inClass (topS 4) 1
abbrev n_Plain_done : List Str := ["self", "hand", "deed", "word"]
theorem sc_Plain_done : FnScope n_Plain_done ["self", "hand", "deed"] (defScope s_Plain_done) := ⟨rfl, rfl, rfl, by decide +kernel, rfl, by decide +kernel, by decide +kernel⟩
abbrev s_Plain_changed : Stmt := inClass (topS 4) 2
abbrev n_Plain_changed : List Str := ["self", "hand", "deed"]
theorem sc_Plain_changed : FnScope n_Plain_changed ["self", "hand", "deed"] (defScope s_Plain_changed) := ⟨rfl, rfl, rfl, by decide +kernel, rfl, by decide +kernel, by decide +kernel⟩
abbrev s_Plain_state : Stmt := inClass (topS 4) 3
abbrev n_Plain_state : List Str := ["self"]
theorem sc_Plain_state : FnScope n_Plain_state ["self"] (defScope s_Plain_state) := ⟨rfl, rfl, rfl, by decide +kernel, rfl, by decide +kernel, by decide +kernel⟩
abbrev s_Plain_twin : Stmt := inClass (topS 4) 4
abbrev n_Plain_twin : List Str := ["self", "found"]
theorem sc_Plain_twin : FnScope n_Plain_twin ["self"] (defScope s_Plain_twin) := ⟨rfl, rfl, rfl, by decide +kernel, rfl, by decide +kernel, by decide +kernel⟩
abbrev s_Search_init : Stmt := inClass (topS 7) 0
abbrev n_Search_init : List Str := ["self", "records", "many"]
theorem sc_Search_init : FnScope n_Search_init ["self", "records", "many"] (defScope s_Search_init) := ⟨rfl, rfl, rfl, by decide +kernel, rfl, by decide +kernel, by decide +kernel⟩
abbrev s_Search_first_ones : Stmt := inClass (topS 7) 1
abbrev n_Search_first_ones : List Str := ["self", "left", "soonest", "place"]
theorem sc_Search_first_ones : FnScope n_Search_first_ones ["self", "left"] (defScope s_Search_first_ones) := ⟨rfl, rfl, rfl, by decide +kernel, rfl, by decide +kernel, by decide +kernel⟩
abbrev s_Search_tried : Stmt := inClass (topS 7) 2
abbrev n_Search_tried : List Str := ["self", "plain", "left", "key", "place", "record", "more", "found", "other"]
theorem sc_Search_tried : FnScope n_Search_tried ["self", "plain", "left"] (defScope s_Search_tried) := ⟨rfl, rfl, rfl, by decide +kernel, rfl, by decide +kernel, by decide +kernel⟩
abbrev s_found_order : Stmt := topS 8
abbrev n_found_order : List Str := ["records", "many"]
theorem sc_found_order : FnScope n_found_order ["records", "many"] (defScope s_found_order) := ⟨rfl, rfl, rfl, by decide +kernel, rfl, by decide +kernel, by decide +kernel⟩
abbrev s__law_cell : Stmt := topS 10
abbrev n__law_cell : List Str := ["_law_script", "_law_k"]
theorem sc__law_cell : FnScope n__law_cell ["_law_script", "_law_k"] (defScope s__law_cell) := ⟨rfl, rfl, rfl, by decide +kernel, rfl, by decide +kernel, by decide +kernel⟩
abbrev s__law_dice : Stmt := topS 11
abbrev n__law_dice : List Str := ["_law_script", "_law_k", "_law_cell_here"]
theorem sc__law_dice : FnScope n__law_dice ["_law_script", "_law_k"] (defScope s__law_dice) := ⟨rfl, rfl, rfl, by decide +kernel, rfl, by decide +kernel, by decide +kernel⟩
abbrev s__law_off : Stmt := topS 12
abbrev n__law_off : List Str := ["_law_d", "_law_most", "_law_more", "_law_found"]
theorem sc__law_off : FnScope n__law_off ["_law_d", "_law_most"] (defScope s__law_off) := ⟨rfl, rfl, rfl, by decide +kernel, rfl, by decide +kernel, by decide +kernel⟩
abbrev s__law_plain : Stmt := topS 13
abbrev n__law_plain : List Str := ["_law_many"]
theorem sc__law_plain : FnScope n__law_plain ["_law_many"] (defScope s__law_plain) := ⟨rfl, rfl, rfl, by decide +kernel, rfl, by decide +kernel, by decide +kernel⟩
abbrev s__law_at_once : Stmt := topS 14
abbrev n__law_at_once : List Str := ["_law_plain_here", "_law_hand", "_law_deed_here", "_law_word"]
theorem sc__law_at_once : FnScope n__law_at_once ["_law_plain_here", "_law_hand", "_law_deed_here"] (defScope s__law_at_once) := ⟨rfl, rfl, rfl, by decide +kernel, rfl, by decide +kernel, by decide +kernel⟩
abbrev s__law_deed : Stmt := topS 15
abbrev n__law_deed : List Str := ["_law_d", "_law_word"]
theorem sc__law_deed : FnScope n__law_deed ["_law_d", "_law_word"] (defScope s__law_deed) := ⟨rfl, rfl, rfl, by decide +kernel, rfl, by decide +kernel, by decide +kernel⟩
abbrev s__law_keeps : Stmt := topS 17
abbrev n__law_keeps : List Str := ["_law_records", "_law_order", "_law_many", "_law_plain_here", "_law_latest", "_law_place", "_law_hand", "_law_deed_here", "_law_begin", "_law_end", "_law_answer"]
theorem sc__law_keeps : FnScope n__law_keeps ["_law_records", "_law_order", "_law_many"] (defScope s__law_keeps) := ⟨rfl, rfl, rfl, by decide +kernel, rfl, by decide +kernel, by decide +kernel⟩
abbrev s__law_history : Stmt := topS 18
abbrev n__law_history : List Str := ["_law_d", "_law_many", "_law_words", "_law_most", "_law_plain_here", "_law_found", "_law_apart", "_law_k", "_law_deed_here", "_law_hand", "_law_moment", "_law_begin"]
theorem sc__law_history : FnScope n__law_history ["_law_d", "_law_many", "_law_words", "_law_most"] (defScope s__law_history) := ⟨rfl, rfl, rfl, by decide +kernel, rfl, by decide +kernel, by decide +kernel⟩
abbrev s__law_orders : Stmt := topS 19
abbrev n__law_orders : List Str := ["_law_many", "_law_found", "_law_place", "_law_more", "_law_order", "_law_at"]
theorem sc__law_orders : FnScope n__law_orders ["_law_many"] (defScope s__law_orders) := ⟨rfl, rfl, rfl, by decide +kernel, rfl, by decide +kernel, by decide +kernel⟩
abbrev s_law : Stmt := topS 20
abbrev n_law : List Str := ["_law_script", "_law_many", "_law_words", "_law_records", "_law_d", "_law_told", "_law_at", "_law_found", "_law_record", "_law_order"]
theorem sc_law : FnScope n_law ["_law_script"] (defScope s_law) := ⟨rfl, rfl, rfl, by decide +kernel, rfl, by decide +kernel, by decide +kernel⟩
abbrev n_Plain : List Str := ["many", "counted", "cells", "sums", "tops", "line"]
abbrev n_Search : List Str := ["told", "many", "dead"]
structure CodeFn (K : PySem.W.Frag) (x qual : Str) (st : Stmt) (f : Addr) (fd : FuncData) (c : Addr) : Prop where
  ex : ∃ (oc : Value) (od : Option Addr) (kV doc pm ct : Value) (an : Option Addr) (osl : Array (Option Value)), fd = PySem.W.fnOf x qual (defArgs st) (defBody st) (defScope st) Value.none kV doc pm an (.ref c) ct ∧ List.lookup f K = some { cls := oc, dict := od, data := Data.func fd, slots := osl } ∧ PySem.W.codeIn K (.ref c) qual = true
structure Env (K : PySem.W.Frag) (mg : Str → Option Value) where
  i_Plain : CI K n_Plain
  i_Search : CI K n_Search
  f_Plain_init : Addr
  fd_Plain_init : FuncData
  F_Plain_init : Fun K "__init__" "Plain.__init__" s_Plain_init f_Plain_init fd_Plain_init
  b_Plain_init : Binds K fd_Plain_init ["self", "many"] []
  f_Plain_done : Addr
  fd_Plain_done : FuncData
  F_Plain_done : Fun K "done" "Plain.done" s_Plain_done f_Plain_done fd_Plain_done
  b_Plain_done : Binds K fd_Plain_done ["self", "hand", "deed"] []
  f_Plain_changed : Addr
  fd_Plain_changed : FuncData
  F_Plain_changed : Fun K "changed" "Plain.changed" s_Plain_changed f_Plain_changed fd_Plain_changed
  b_Plain_changed : Binds K fd_Plain_changed ["self", "hand", "deed"] []
  f_Plain_state : Addr
  fd_Plain_state : FuncData
  F_Plain_state : Fun K "state" "Plain.state" s_Plain_state f_Plain_state fd_Plain_state
  b_Plain_state : Binds K fd_Plain_state ["self"] []
  f_Plain_twin : Addr
  fd_Plain_twin : FuncData
  F_Plain_twin : Fun K "twin" "Plain.twin" s_Plain_twin f_Plain_twin fd_Plain_twin
  b_Plain_twin : Binds K fd_Plain_twin ["self"] []
  f_Search_init : Addr
  fd_Search_init : FuncData
  F_Search_init : Fun K "__init__" "Search.__init__" s_Search_init f_Search_init fd_Search_init
  b_Search_init : Binds K fd_Search_init ["self", "records", "many"] []
  f_Search_first_ones : Addr
  fd_Search_first_ones : FuncData
  F_Search_first_ones : Fun K "first_ones" "Search.first_ones" s_Search_first_ones f_Search_first_ones fd_Search_first_ones
  b_Search_first_ones : Binds K fd_Search_first_ones ["self", "left"] []
  f_Search_tried : Addr
  fd_Search_tried : FuncData
  F_Search_tried : Fun K "tried" "Search.tried" s_Search_tried f_Search_tried fd_Search_tried
  b_Search_tried : Binds K fd_Search_tried ["self", "plain", "left"] []
  f_found_order : Addr
  fd_found_order : FuncData
  F_found_order : Fun K "found_order" "found_order" s_found_order f_found_order fd_found_order
  b_found_order : Binds K fd_found_order ["records", "many"] []
  g_found_order : mg "found_order" = some (.ref f_found_order)
  k_found_order : PySem.W.keepIn K (.ref f_found_order) = true
  f__law_cell : Addr
  fd__law_cell : FuncData
  F__law_cell : Fun K "_law_cell" "_law_cell" s__law_cell f__law_cell fd__law_cell
  b__law_cell : Binds K fd__law_cell ["_law_script", "_law_k"] []
  g__law_cell : mg "_law_cell" = some (.ref f__law_cell)
  k__law_cell : PySem.W.keepIn K (.ref f__law_cell) = true
  f__law_dice : Addr
  fd__law_dice : FuncData
  F__law_dice : Fun K "_law_dice" "_law_dice" s__law_dice f__law_dice fd__law_dice
  b__law_dice : Binds K fd__law_dice ["_law_script", "_law_k"] []
  g__law_dice : mg "_law_dice" = some (.ref f__law_dice)
  k__law_dice : PySem.W.keepIn K (.ref f__law_dice) = true
  f__law_off : Addr
  fd__law_off : FuncData
  F__law_off : Fun K "_law_off" "_law_off" s__law_off f__law_off fd__law_off
  b__law_off : Binds K fd__law_off ["_law_d", "_law_most"] []
  g__law_off : mg "_law_off" = some (.ref f__law_off)
  k__law_off : PySem.W.keepIn K (.ref f__law_off) = true
  f__law_plain : Addr
  fd__law_plain : FuncData
  F__law_plain : Fun K "_law_plain" "_law_plain" s__law_plain f__law_plain fd__law_plain
  b__law_plain : Binds K fd__law_plain ["_law_many"] []
  g__law_plain : mg "_law_plain" = some (.ref f__law_plain)
  k__law_plain : PySem.W.keepIn K (.ref f__law_plain) = true
  f__law_at_once : Addr
  fd__law_at_once : FuncData
  F__law_at_once : Fun K "_law_at_once" "_law_at_once" s__law_at_once f__law_at_once fd__law_at_once
  b__law_at_once : Binds K fd__law_at_once ["_law_plain_here", "_law_hand", "_law_deed_here"] []
  g__law_at_once : mg "_law_at_once" = some (.ref f__law_at_once)
  k__law_at_once : PySem.W.keepIn K (.ref f__law_at_once) = true
  f__law_deed : Addr
  fd__law_deed : FuncData
  F__law_deed : Fun K "_law_deed" "_law_deed" s__law_deed f__law_deed fd__law_deed
  b__law_deed : Binds K fd__law_deed ["_law_d", "_law_word"] []
  g__law_deed : mg "_law_deed" = some (.ref f__law_deed)
  k__law_deed : PySem.W.keepIn K (.ref f__law_deed) = true
  f__law_keeps : Addr
  fd__law_keeps : FuncData
  F__law_keeps : Fun K "_law_keeps" "_law_keeps" s__law_keeps f__law_keeps fd__law_keeps
  b__law_keeps : Binds K fd__law_keeps ["_law_records", "_law_order", "_law_many"] []
  g__law_keeps : mg "_law_keeps" = some (.ref f__law_keeps)
  k__law_keeps : PySem.W.keepIn K (.ref f__law_keeps) = true
  f__law_history : Addr
  fd__law_history : FuncData
  F__law_history : Fun K "_law_history" "_law_history" s__law_history f__law_history fd__law_history
  b__law_history : Binds K fd__law_history ["_law_d", "_law_many", "_law_words", "_law_most"] []
  g__law_history : mg "_law_history" = some (.ref f__law_history)
  k__law_history : PySem.W.keepIn K (.ref f__law_history) = true
  f__law_orders : Addr
  fd__law_orders : FuncData
  F__law_orders : Fun K "_law_orders" "_law_orders" s__law_orders f__law_orders fd__law_orders
  b__law_orders : Binds K fd__law_orders ["_law_many"] []
  g__law_orders : mg "_law_orders" = some (.ref f__law_orders)
  k__law_orders : PySem.W.keepIn K (.ref f__law_orders) = true
  f_law : Addr
  fd_law : FuncData
  F_law : Fun K "law" "law" s_law f_law fd_law
  b_law : Binds K fd_law ["_law_script"] []
  g_law : mg "law" = some (.ref f_law)
  k_law : PySem.W.keepIn K (.ref f_law) = true
  g_Plain : mg "Plain" = some (.ref i_Plain.C)
  mk_Plain : Mk K i_Plain.C f_Plain_init
  m_Plain_done : Meth K i_Plain.C "done" f_Plain_done
  m_Plain_changed : Meth K i_Plain.C "changed" f_Plain_changed
  m_Plain_state : Meth K i_Plain.C "state" f_Plain_state
  m_Plain_twin : Meth K i_Plain.C "twin" f_Plain_twin
  g_Search : mg "Search" = some (.ref i_Search.C)
  mk_Search : Mk K i_Search.C f_Search_init
  m_Search_first_ones : Meth K i_Search.C "first_ones" f_Search_first_ones
  m_Search_tried : Meth K i_Search.C "tried" f_Search_tried
  e_HandsError : Addr
  g_HandsError : mg "HandsError" = some (.ref e_HandsError)
  k_HandsError : PySem.W.keepIn K (.ref e_HandsError) = true
  x_HandsError : PySem.W.excIn K e_HandsError [.type "ValueError", .type "Exception", .type "BaseException", .type "object"] "ValueError.__new__" = true
  xb_HandsError : PySem.W.subIn K (.ref e_HandsError) (.type "BaseException") = some true
  xt_HandsError : PySem.W.typeIn K (.ref e_HandsError) = some (.type "type")
  e_NoDeed : Addr
  g_NoDeed : mg "NoDeed" = some (.ref e_NoDeed)
  k_NoDeed : PySem.W.keepIn K (.ref e_NoDeed) = true
  x_NoDeed : PySem.W.excIn K e_NoDeed [.type "ValueError", .type "Exception", .type "BaseException", .type "object"] "ValueError.__new__" = true
  xb_NoDeed : PySem.W.subIn K (.ref e_NoDeed) (.type "BaseException") = some true
  xt_NoDeed : PySem.W.typeIn K (.ref e_NoDeed) = some (.type "type")
  gt_MOST_RECORDS : Tok
  g_MOST_RECORDS : mg "MOST_RECORDS" = some (.int 10 gt_MOST_RECORDS)
  bn_len : mg "len" = none
  bn_abs : mg "abs" = none
  bn_sum : mg "sum" = none
  bn_max : mg "max" = none
  bn_min : mg "min" = none
  bn_int : mg "int" = none
  bn_isinstance : mg "isinstance" = none
  bn_sorted : mg "sorted" = none
  bn_list : mg "list" = none
  bn_tuple : mg "tuple" = none
  bn_range : mg "range" = none
  bn_ValueError : mg "ValueError" = none

/-! ### the steps (own rows under a word of the library that takes a term) -/
local macro_rules | `(tactic| ktf_call "mem") => `(tactic| first | with_reducible assumption | with_reducible exact List.mem_cons_self | ((with_reducible refine' List.mem_cons_of_mem _ ?w9); (case w9 => ktf_call "mem")))
local macro_rules | `(tactic| ktf_call "pick") => `(tactic| first | with_reducible exact Pick.hd | with_reducible exact pick_mapNil | with_reducible exact pick_nats | ((with_reducible refine' Pick.tl ?w9); (case w9 => ktf_call "pick")))
local macro_rules | `(tactic| ktf_call "picks") => `(tactic| first | with_reducible exact Picks.nil | (with_reducible refine' Picks.cons ?w1 ?w2; (case w1 => ktf_call "pick"); (case w2 => ktf_call "picks")))
local macro_rules | `(tactic| ktf_call "rep") => `(tactic| first | with_reducible exact Rep.hd | ((with_reducible refine' Rep.tl ?w9); (case w9 => ktf_call "rep")))
local macro_rules | `(tactic| ktf_call "fput") => `(tactic| first | with_reducible exact FPut.hd | with_reducible exact FPut.new | ((with_reducible refine' FPut.tl ?w9); (case w9 => ktf_call "fput")))
local macro_rules | `(tactic| ktf_call "rdl") => `(tactic| first | with_reducible assumption | ((with_reducible refine' rdl_pt ?w9); (case w9 => ktf_call "mem")) | ((with_reducible refine' rdl_scr ?w9); (case w9 => ktf_call "mem")) | ((with_reducible refine' RdL.cons ?w9); (case w9 => ktf_call "rdl")))
local macro_rules | `(tactic| ktf_call "rdt") => `(tactic| first | with_reducible assumption | ((with_reducible refine' rdt_tups ?w8 ?w9); (case w9 => with_reducible assumption); (case w8 => ktf_call "mem")) | ((with_reducible refine' rdt_pt ?w9); (case w9 => ktf_call "mem")) | ((with_reducible refine' RdT.cons ?w9); (case w9 => ktf_call "rdt")))
local macro_rules | `(tactic| ktf_call "lens") => `(tactic| first | omega | (simp only [List.length_map, List.length_append, List.length_cons, List.length_nil, List.length_set, List.length_replicate, List.length_reverse, List.length_tail]; omega) | ((simp only [List.length_map, List.length_append, List.length_cons, List.length_nil, List.length_set, List.length_replicate, List.length_reverse, List.length_tail] at *); omega))
local macro_rules | `(tactic| ktf_call "len") => `(tactic| first | assumption | ((with_reducible refine' Nat.lt_of_le_of_lt (m := 1000000) ?_ (by decide)); ktf_call "lens") | ((with_reducible refine' Nat.le_trans (m := 1000000) ?_ (by decide)); ktf_call "lens"))
local macro_rules | `(tactic| ktf_call "drops") => `(tactic| first | with_reducible exact Drops.refl | ((with_reducible refine' Drops.tl ?w9); (case w9 => ktf_call "drops")))
local macro_rules | `(tactic| ktf_call "keep") => `(tactic| first | with_reducible exact Keep.rest Drops.refl | with_reducible exact Keep.nil | (with_reducible refine' Keep.cons ?w1 ?w2; (case w1 => ktf_call "pick"); (case w2 => ktf_call "keep")) | (with_reducible refine' Keep.rest ?w1; (case w1 => ktf_call "drops")) | ktf_call "fold")
local macro_rules | `(tactic| ktf_call "fold") => `(tactic| first | ((with_reducible refine' Keep.fold ent_scanC ?w1); (case w1 => ktf_call "keep")) | ((with_reducible refine' Keep.fold ent_memC ?w1); (case w1 => ktf_call "keep")) | ((with_reducible refine' Keep.fold ent_oneC ?w1); (case w1 => ktf_call "keep")) | ((with_reducible refine' Keep.fold ent_countC ?w1); (case w1 => ktf_call "keep")) | ((with_reducible refine' Keep.fold ent_scanWC ?w1); (case w1 => ktf_call "keep")) | ((with_reducible refine' Keep.fold ent_giveC ?w1); (case w1 => ktf_call "keep")) | ((with_reducible refine' Keep.fold ent_takeC ?w1); (case w1 => ktf_call "keep")) | ((with_reducible refine' Keep.fold optN ?w1); (case w1 => ktf_call "keep")) | ((with_reducible refine' Keep.fold optL ?w1); (case w1 => ktf_call "keep")) | ((with_reducible refine' Keep.fold Ent.dice ?w1); (case w1 => ktf_call "keep")) | ((with_reducible refine' Keep.fold Ent.plainC ?w1); (case w1 => ktf_call "keep")) | ((with_reducible refine' Keep.fold Ent.dictC ?w1); (case w1 => ktf_call "keep")) | ((with_reducible refine' Keep.fold ansN ?w1); (case w1 => ktf_call "keep")) | ((with_reducible refine' Keep.fold ansI ?w1); (case w1 => ktf_call "keep")) | ((with_reducible refine' Keep.fold ansT ?w1); (case w1 => ktf_call "keep")))
local macro_rules | `(tactic| ktf_call "ent") => `(tactic| (refine Ent.keep ?_; ktf_call "keep"))
local macro_rules | `(tactic| ktf_call "kput") => `(tactic| first | with_reducible exact KPut.hd | ((with_reducible refine' KPut.tl ?w9); (case w9 => ktf_call "kput")))
local macro_rules | `(tactic| ktf_call "kvs") => `(tactic| first | with_reducible exact KVs.nil | ((with_reducible refine' KVs.str ?w9); (case w9 => ktf_call "kvs")) | ((with_reducible refine' KVs.int ?w9); (case w9 => ktf_call "kvs")))
local macro_rules | `(tactic| ktf_call "typ") => `(tactic| first | with_reducible assumption | with_reducible exact TyP.non | with_reducible exact TyP.int _ | with_reducible exact TyP.bl _ | with_reducible exact TyP.str _ | ((with_reducible refine' TyP.lst ?w9); (case w9 => ktf_call "mem")) | ((with_reducible refine' TyP.tup ?w9); (case w9 => ktf_call "mem")))
local macro_rules | `(tactic| ktf_call "rdd") => `(tactic| first | with_reducible assumption | with_reducible exact rdd_int | with_reducible exact rdd_non | with_reducible exact rdd_bl | (refine' rdd_nil ?w9; (case w9 => ktf_call "rdl")) | (refine' rdd_ints ?w9; (case w9 => ktf_call "rdl")))
local macro_rules | `(tactic| ktf_call "efact") => `(tactic| with_reducible assumption)
/-! one step of a reading -/
local macro_rules | `(tactic| ktf_call "step") => `(tactic| first
  | with_reducible refine ws_seq ?_
  | with_reducible refine ws_asg ?_
  | with_reducible refine wg_nil ?_
  | with_reducible refine wg_one ?_
  | with_reducible refine wg_name ?_
  | ((with_reducible refine' we_var ?w1 ?wd); (case w1 => exact rfl))
  | with_reducible refine we_c ?_
  | (with_reducible refine we_fld ?_)
  | ((with_reducible refine' fldG ?w1 ?w2 ?w3 ?wd); (case w1 => ktf_call "mem"); (case w2 => exact rfl); (case w3 => ktf_call "mem"))
  | with_reducible refine ws_fld ?_
  | ((with_reducible refine' fldS ?w1 ?w2 ?w3 ?w4 ?wd); (case w1 => ktf_call "mem"); (case w2 => ktf_call "fput"); (case w3 => exact rfl); (case w4 => ktf_call "rep"))
  | with_reducible refine we_op ?_
  | with_reducible refine w2_I0 ?_
  | ((with_reducible refine' w2_eq ?w1 ?wd); (case w1 => exact rfl))
  | ((with_reducible refine' w2_ne ?w1 ?wd); (case w1 => exact rfl))
  | ((with_reducible refine' w2_I ?wc ?wd); (case wc => first | omega | exact cmul_if | exact cmul_if2 | exact Or.inr (And.intro (by omega) (by omega)) | exact Or.inl (And.intro (by omega) (by omega)) | exact Or.inr ⟨by decide, by decide⟩ | exact Or.inl ⟨by decide, by decide⟩ | exact And.intro (by decide) (by decide) | (show (0 : Int) < _; omega) | exact ⟨by decide, by decide, by decide⟩))
  | ((with_reducible refine' w2_ixL ?w1 ?w2 ?wd); (case w1 => ktf_call "rdl"); (case w2 => exact rfl))
  | ((with_reducible refine' w2_ixT ?w1 ?w2 ?wd); (case w1 => ktf_call "rdt"); (case w2 => exact rfl))
  | ((with_reducible refine' wst_Lz ?w1 ?w2 ?w3 ?wd); (case w1 => ktf_call "rep"); (case w2 => first | decide | omega); (case w3 => first | omega | ((simp only [List.length_cons, List.length_nil, List.length_set]); decide)))
  | with_reducible refine wt_test ?_
  | with_reducible refine wt_B ?_
  | with_reducible refine boolG ?_
  | with_reducible refine wt_not ?_
  | with_reducible refine wt_and ?_
  | with_reducible refine wt_or ?_
  | with_reducible refine wt_yes ?_
  | with_reducible refine we_chain ?_
  | with_reducible refine chainG ?_
  | with_reducible refine we_andV ?_
  | with_reducible refine we_orV ?_
  | with_reducible refine andG ?_
  | with_reducible refine orG ?_
  | with_reducible refine we_notV ?_
  | with_reducible refine we_eqN ?_
  | with_reducible refine we_neN ?_
  | with_reducible refine ws_if ?_
  | with_reducible refine iteT ?_
  | with_reducible refine iteF ?_
  | with_reducible refine iteNT ?_
  | with_reducible refine iteNF ?_
  | with_reducible refine ws_next ?_
  | with_reducible refine ws_ret ?_
  | with_reducible refine ws_retN ?_
  | with_reducible refine ws_drop ?_
  | with_reducible refine ws_break ?_
  | with_reducible refine ws_cont ?_
  | with_reducible refine wa_nil ?_
  | with_reducible refine wa_cons ?_
  | (with_reducible refine we_lst ?_)
  | (with_reducible refine we_tup ?_)
  | ((with_reducible refine' newG ?w1 fun _ => ?wd); (case w1 => ktf_call "len"))
  | with_reducible refine we_dnewK fun _ => ?_
  | with_reducible refine we_dnewT fun _ => ?_
  | with_reducible refine we_CB ?_
  | with_reducible refine we_BM ?_
  | with_reducible refine we_BM0 ?_
  | ((with_reducible refine' tyL ?w1 ?wd); (case w1 => ktf_call "rdl"))
  | ((with_reducible refine' wm_append ?w1 ?w2 ?wd); (case w1 => ktf_call "rep"); (case w2 => ktf_call "len"))
  | ((with_reducible refine' wc_lenL ?w1 ?wd); (case w1 => ktf_call "rdl"))
  | ((with_reducible refine' wc_lenT ?w1 ?wd); (case w1 => ktf_call "rdt"))
  | with_reducible refine wc_abs ?_
  | with_reducible refine wc_max2 ?_
  | with_reducible refine wc_min2 ?_
  | with_reducible refine wc_int ?_
  | with_reducible refine wc_intB ?_
  | with_reducible refine we_un ?_
  | with_reducible refine w1_U ?_
  | with_reducible refine we_sl ?_
  | with_reducible refine wo_none ?_
  | with_reducible refine wo_some ?_
  | with_reducible refine intG ?_
  | with_reducible refine we_dget ?_
  | with_reducible refine we_din ?_
  | with_reducible refine we_dnotin ?_
  | with_reducible refine ws_dput ?_
  | with_reducible refine wg_sub ?_
  | with_reducible refine we_call ?_
  | with_reducible refine we_callX (by assumption) ?_
  | with_reducible refine we_meth ?_
  | with_reducible refine we_methX (by assumption) ?_
  | ((with_reducible refine' methG ?w1 ?w2 ?w3 ?wd); (case w1 => ktf_call "mem"); (case w2 => exact rfl); (case w3 => decide +kernel))
  | ((with_reducible refine' methPlain ?w1 ?w2 ?w3 ?wd); (case w1 => ktf_call "mem"); (case w2 => exact rfl); (case w3 => decide +kernel))
  | with_reducible refine we_make ?_
  | with_reducible refine we_makeX (by assumption) ?_
  | ((with_reducible refine wipG ?w1 ?wd); (case w1 => exact rfl))
  | ((with_reducible refine' accG ?w1 ?w2 ?wd); (case w1 => ktf_call "rep"); (case w2 => ktf_call "len"))
  | ((with_reducible refine' wc_isi ?w1 ?w2 ?wd); (case w1 => ktf_call "typ"); (case w2 => first | (show _ = some false; decide +kernel) | (show _ = some true; decide +kernel)))
  | ((with_reducible refine' wc_listL ?w1 fun _ => ?wd); (case w1 => ktf_call "rdl"))
  | ((with_reducible refine' w2_eqD ?w1 ?w2 ?wd); (case w1 => ktf_call "rdd"); (case w2 => ktf_call "rdd"))
  | ((with_reducible refine' w2_neD ?w1 ?w2 ?wd); (case w1 => ktf_call "rdd"); (case w2 => ktf_call "rdd"))
  | with_reducible refine we_clsfn ?_
  | with_reducible refine clsG ?_
  | with_reducible refine we_callS (by assumption) ?_
  | with_reducible refine we_methS (by assumption) ?_
  | with_reducible refine we_makeS (by assumption) ?_
  | ((with_reducible refine' wc_isE ?w1 ?wd); (case w1 => ktf_call "efact"))
  | ((with_reducible refine' wc_isEV ?w1 ?wd); (case w1 => ktf_call "efact"))
  | ((with_reducible refine' wc_isET3 ?w0 ?w1 ?w2 ?w3 ?wd); (case w0 => ktf_call "mem"); (case w1 => ktf_call "efact"); (case w2 => ktf_call "efact"); (case w3 => ktf_call "efact"))
  | with_reducible refine we_dispG fun _ => ?_
  | with_reducible refine wp_nil ?_
  | with_reducible refine wp_cons ?_
  | ((with_reducible refine' dispG ?w1 ?w2 ?w3 ?w4 ?wd); (case w1 => ktf_call "kvs"); (case w2 => (simp only [List.map_cons, List.map_nil]); decide +kernel); (case w3 => first | decide | ((simp only [List.length_cons, List.length_nil]); first | done | decide)); (case w4 => ktf_call "rep"))
  | ((with_reducible refine' dgetS ?w1 ?w2 ?w3 ?wd); (case w1 => ktf_call "mem"); (case w2 => (simp only [List.map_cons, List.map_nil]); decide +kernel); (case w3 => ktf_call "mem"))
  | ((with_reducible refine' dputS ?w1 ?w2 ?w3 ?w4 ?w5 ?wd); (case w3 => ktf_call "mem"); (case w2 => ktf_call "kput"); (case w4 => ktf_call "rep"); (case w1 => (simp only [List.map_cons, List.map_nil]); decide +kernel); (case w5 => ktf_call "len"))
  | ((with_reducible refine' w2_inL ?w1 ?w2 ?w3 ?wd); (case w1 => ktf_call "rdl"); (case w2 => exact rfl); (case w3 => exact rfl))
  | ((with_reducible refine' w2_inT ?w1 ?w2 ?w3 ?wd); (case w1 => ktf_call "rdt"); (case w2 => exact rfl); (case w3 => exact rfl))
  | ((with_reducible refine' w2_ninL ?w1 ?w2 ?w3 ?wd); (case w1 => ktf_call "rdl"); (case w2 => exact rfl); (case w3 => exact rfl))
  | ((with_reducible refine' w2_ninT ?w1 ?w2 ?w3 ?wd); (case w1 => ktf_call "rdt"); (case w2 => exact rfl); (case w3 => exact rfl))
  | with_reducible refine wgs_cons ?_
  | ((with_reducible refine iteTe ?w1 ?wd); (case w1 => decide +kernel))
  | ((with_reducible refine iteFe ?w1 ?wd); (case w1 => decide +kernel))
  | ((with_reducible refine iteFd ?w1 ?wd); (case w1 => (intro z; cases z; done)))
  | ((with_reducible refine iteTd ?w1 ?wd); (case w1 => with_reducible first | assumption | exact rfl))
  | ((with_reducible refine iteNFd ?w1 ?wd); (case w1 => (intro z; cases z; done)))
  | ((with_reducible refine iteNTd ?w1 ?wd); (case w1 => with_reducible first | assumption | exact rfl))
  | ((with_reducible refine iteFd ?w1 ?wd); (case w1 => with_reducible assumption))
  | ((with_reducible refine iteNFd ?w1 ?wd); (case w1 => with_reducible assumption))
  | with_reducible refine wgs_nil ?_)
/-! lists of whole numbers -/
local macro_rules | `(tactic| ktf_call "step") => `(tactic| first
  | ((with_reducible refine' w2_ixI ?w1 ?w2 ?wd); (case w1 => ktf_call "rdl"); (case w2 => ktf_call "lens"))
  | with_reducible refine w2_eqI ?_
  | with_reducible refine w2_neI ?_
  | with_reducible refine w2_eqDI ?_
  | with_reducible refine w2_neDI ?_
  | ((with_reducible refine' wg_tup ?w1 ?w2 ?wd); (case w1 => ktf_call "rdt"); (case w2 => exact rfl))
  | ((with_reducible refine' w2_neL ?w1 ?w2 ?wd); (case w1 => ktf_call "rdl"); (case w2 => ktf_call "rdl"))
  | ((with_reducible refine' w2_eqL ?w1 ?w2 ?wd); (case w1 => ktf_call "rdl"); (case w2 => ktf_call "rdl"))
  | with_reducible refine we_lstRg ?_
  | ((with_reducible refine lrgG ?w1 fun _ => ?wd); (case w1 => ktf_call "lens"))
  | ((with_reducible refine' wc_sorted ?w1 fun _ _ _ _ => ?wd); (case w1 => ktf_call "rdl"))
  | ((with_reducible refine' w2_neA ?w1 ?w2 ?wd); (case w1 => first | with_reducible assumption | ((with_reducible refine' rdd_ansC ?w9); (case w9 => ktf_call "mem")) | ((with_reducible refine' rdd_ansR ?w9 ?w8); (case w9 => ktf_call "mem"); (case w8 => with_reducible assumption))); (case w2 => first | with_reducible assumption | ((with_reducible refine' rdd_ansC ?w9); (case w9 => ktf_call "mem")) | ((with_reducible refine' rdd_ansR ?w9 ?w8); (case w9 => ktf_call "mem"); (case w8 => with_reducible assumption))))
  | ((with_reducible refine' w2_catIs ?w1 ?w2 ?w3 fun _ => ?wd); (case w1 => ktf_call "mem"); (case w2 => ktf_call "mem"); (case w3 => ktf_call "lens"))
  | ((with_reducible refine' w2_catsI ?w1 ?w2 ?w3 fun _ => ?wd); (case w1 => ktf_call "mem"); (case w2 => ktf_call "mem"); (case w3 => ktf_call "lens"))
  | ((with_reducible refine' w2_catI ?w1 ?w2 ?w3 fun _ => ?wd); (case w1 => ktf_call "mem"); (case w2 => ktf_call "mem"); (case w3 => ktf_call "lens"))
  | ((with_reducible refine' wsl_tail ?w1 fun _ => ?wd); (case w1 => ktf_call "rdl"))
  | with_reducible refine we_lstRev ?_
  | ((with_reducible refine' revG ?w1 fun _ => ?wd); (case w1 => ktf_call "rdl"))
  | ((with_reducible refine' wst_LI ?w1 ?w2 ?wd); (case w1 => ktf_call "rep"); (case w2 => ktf_call "lens"))
  | ((with_reducible refine' wm_appendI ?w1 ?w2 ?wd); (case w1 => ktf_call "rep"); (case w2 => ktf_call "len"))
  | ((with_reducible refine' wm_pop0I ?w1 ?wd); (case w1 => ktf_call "rep"))
  | ((with_reducible refine' w2_repI ?w1 ?w2 fun _ => ?wd); (case w1 => ktf_call "mem"); (case w2 => omega))
  | ((with_reducible refine' w2_eqNil ?w1 ?w2 ?wd); (case w1 => ktf_call "rdl"); (case w2 => ktf_call "rdl"))
  | ((with_reducible refine' w2_neNil ?w1 ?w2 ?wd); (case w1 => ktf_call "rdl"); (case w2 => ktf_call "rdl"))
  | ((with_reducible refine' wc_topI ?w1 ?w2 ?wd); (case w1 => ktf_call "rdl"); (case w2 => omega))
  | ((with_reducible refine' wc_sum ?w1 ?wd); (case w1 => ktf_call "rdl"))
  | ((with_reducible refine' wc_tupL ?w1 fun _ => ?wd); (case w1 => ktf_call "rdl")))
local macro_rules | `(tactic| ktf_call "go") => `(tactic| repeat (ktf_call "step"))
/-! ### the law's own helpers: a cell, dice, a draw -/
def S_cell (K : PySem.W.Frag) : SP := fun vs ps Φ => ∃ (a : Addr) (ns : List Int) (k : Int), vs = [.ref a, .int k] ∧ 0 ≤ k ∧ RdL K ps a (ns.map V.int) ∧ ns.length ≤ 1000 ∧ Φ (.int (ns.getD k.toNat 0)) ps
def S_dice (K : PySem.W.Frag) : SP := fun vs ps Φ => ∃ (a : Addr) (ns : List Int) (k : Int), vs = [.ref a, .int k] ∧ 0 ≤ k ∧ RdL K ps a (ns.map V.int) ∧ ns.length ≤ 1000 ∧ ∀ p, Φ (.ref p) (dice p a :: ps)
def S_off (K : PySem.W.Frag) : SP := fun vs ps Φ => ∃ (p a : Addr) (ns : List Int) (most : Int) (R : List HP), vs = [.ref p, .int most] ∧ Pick (dice p a) ps R ∧ RdL K R a (ns.map V.int) ∧ ns.length ≤ 1000 ∧ (0 < most ∧ most < 1073741824) ∧ ∀ r : Nat, (r : Int) < most → Φ (.int r) (dice p a :: R)
theorem s_cell {K : PySem.W.Frag} {ps : List HP} {Φ : V → List HP → Prop} {a : Addr} {ns : List Int} {k : Int} (rd : RdL K ps a (ns.map V.int)) (hl : ns.length ≤ 1000) (h0 : 0 ≤ k) (q : Φ (.int (ns.getD k.toNat 0)) ps) : S_cell K [.ref a, .int k] ps Φ := ⟨a, ns, k, rfl, h0, rd, hl, q⟩
theorem s_dice {K : PySem.W.Frag} {ps : List HP} {Φ : V → List HP → Prop} {a : Addr} {ns : List Int} {k : Int} (rd : RdL K ps a (ns.map V.int)) (hl : ns.length ≤ 1000) (h0 : 0 ≤ k) (q : ∀ p, Φ (.ref p) (dice p a :: ps)) : S_dice K [.ref a, .int k] ps Φ := ⟨a, ns, k, rfl, h0, rd, hl, q⟩
theorem s_off {K : PySem.W.Frag} {ps R : List HP} {Φ : V → List HP → Prop} {p a : Addr} {ns : List Int} {most : Int} (pk : Pick (dice p a) ps R) (rd : RdL K R a (ns.map V.int)) (hl : ns.length ≤ 1000) (h0 : 0 < most ∧ most < 1073741824) (q : ∀ r : Nat, (r : Int) < most → Φ (.int r) (dice p a :: R)) : S_off K [.ref p, .int most] ps Φ := ⟨p, a, ns, most, R, rfl, pk, rd, hl, h0, q⟩
local macro_rules | `(tactic| ktf_call "step") => `(tactic| first
  | ((with_reducible refine' s_cell ?w1 ?w2 ?w3 ?wd); (case w1 => ktf_call "rdl"); (case w2 => assumption); (case w3 => omega))
  | ((with_reducible refine' s_dice ?w1 ?w2 ?w3 fun _ => ?wd); (case w1 => ktf_call "rdl"); (case w2 => assumption); (case w3 => omega))
  | ((with_reducible refine' s_off ?w0 ?w1 ?w2 ?w3 fun r hr => ?wd); (case w0 => ktf_call "pick"); (case w1 => ktf_call "rdl"); (case w2 => assumption); (case w3 => ktf_call "lens")))
section
variable {P : Program} {w : World} {K : PySem.W.Frag} {mg : Str → Option Value} {base : Heap}
def Bx (p : Prop) : Prop := p
theorem Bx.out {p : Prop} (h : Bx p) : p := h
theorem Bx.tr {p : Prop} (h : p) : Bx p = True := eq_true h
theorem ok__law_cell (E : Env K mg) : FnOk P w K mg base CX0 1 E.f__law_cell E.fd__law_cell ["_law_script", "_law_k"] (spS (S_cell K)) := by
  refine Bx.out ?_
  simp (disch := with_unfolding_all
      refine okS E.F__law_cell sc__law_cell (fun vs ps Φ h => ?_) (fun cdv A outer s H E0 hr => ?_)
      · obtain ⟨a, ns, k, rfl, _⟩ := h; rfl
      · refine ⟨_, ((pss_cons (ps_if (pt_cmpR op_lt (pv 1) (pe_callB cr_len (by rfl) E.bn_len (by decide +kernel) (pa_cons (pv 0) pa_nil)) (nomark _)) (pss_one (ps_ret (pe_ix ix_list (pv 0) (pv 1) (fun _ _ => rfl)))) pss_nil)
     (pss_one (ps_ret pe_int)))), fun vs ps Φ h => ?_⟩
        obtain ⟨a, ns, z, rfl, hz, rd, hl, q⟩ := h
        obtain ⟨k, rfl⟩ : ∃ k : Nat, z = k := ⟨z.toNat, (Int.toNat_of_nonneg hz).symm⟩
        rw [Int.toNat_natCast] at q
        try dsimp only [cxOf]
        show Ws _ _ _ _ _ [_, _] _
        ktf_call "go"
        refine iteD (fun h => ?_) (fun h => ?_)
        · rw [List.length_map] at h
          have hk : k < ns.length := by omega
          ktf_call "go"
          rw [Int.toNat_natCast]
          exact .here q
        · rw [List.length_map] at h
          ktf_call "go"
          have e : ns.getD k 0 = 0 := getD_ge (by omega)
          rw [e] at q
          exact .here q) only [↓Bx.tr]
end
section
variable {P : Program} {w : World} {K : PySem.W.Frag} {mg : Str → Option Value} {base : Heap}
theorem ok__law_dice (E : Env K mg) : FnOk P w K mg base CX0 2 E.f__law_dice E.fd__law_dice ["_law_script", "_law_k"] (spS (S_dice K)) := by
  refine Bx.out ?_
  simp (disch := with_unfolding_all
      refine okS E.F__law_dice sc__law_dice (fun vs ps Φ h => ?_) (fun cdv A outer s H E0 hr => ?_)
      · obtain ⟨a, ns, k, rfl, _⟩ := h; rfl
      · refine ⟨_, ((pss_cons (ps_set (i := 2) sc__law_dice.nd rfl (by first | exact Or.inl rfl | exact Or.inr rfl) (pe_callB cr_abs (by rfl) E.bn_abs (by decide +kernel) (pa_cons (pe_call (ok__law_cell E) (hr.mono (by decide)) rfl E.g__law_cell E.k__law_cell E.b__law_cell .nil pass0 (pa_cons (pv 0) (pa_cons (pv 1) pa_nil))) pa_nil)))
     (pss_one (ps_ret (pe_lst (pa_cons (pe_op op_mod (pv 2) pe_int) (pa_cons (pv 0) (pa_cons (pe_op op_add (pv 1) pe_int) (pa_cons (pe_op op_mul (pe_callTy cr_int1 (by rfl) E.bn_int (by decide +kernel) (pa_cons (pe_cmpR op_ge (pv 2) (pe_op op_pow pe_int pe_int) (nomark _)) pa_nil)) (pv 2)) pa_nil))))))))), fun vs ps Φ h => ?_⟩
        obtain ⟨a, ns, z, rfl, hz, rd, hl, q⟩ := h
        obtain ⟨k, rfl⟩ : ∃ k : Nat, z = k := ⟨z.toNat, (Int.toNat_of_nonneg hz).symm⟩
        try dsimp only [cxOf]
        show Ws _ _ _ _ _ [_, _, _] _
        ktf_call "go"
        exact OutP.mk' Ent.dice (q _)) only [↓Bx.tr]
theorem ok__law_off (E : Env K mg) : FnOk P w K mg base CX0 2 E.f__law_off E.fd__law_off ["_law_d", "_law_most"] (spS (S_off K)) := by
  refine Bx.out ?_
  simp (disch := with_unfolding_all
      refine okS E.F__law_off sc__law_off (fun vs ps Φ h => ?_) (fun cdv A outer s H E0 hr => ?_)
      · obtain ⟨p, a, ns, most, R, rfl, _⟩ := h; rfl
      · refine ⟨_, ((pss_cons (ps_if (pt_cmpR op_gt (pe_ix ix_list (pv 0) pe_int (fun _ _ => rfl)) pe_int (nomark _)) (pss_cons (ps_set (i := 3) sc__law_off.nd rfl (by first | exact Or.inl rfl | exact Or.inr rfl) (pe_op op_mod (pe_ix ix_list (pv 0) pe_int (fun _ _ => rfl)) (pv 1)))
     (pss_cons (ps_asg (pe_op op_fdiv (pe_ix ix_list (pv 0) pe_int (fun _ _ => rfl)) (pv 1)) (pg_sub (pv 0) pe_int set_list))
     (pss_one (ps_ret (pv 3))))) pss_nil)
     (pss_cons (ps_set (i := 2) sc__law_off.nd rfl (by first | exact Or.inl rfl | exact Or.inr rfl) (pe_callB cr_abs (by rfl) E.bn_abs (by decide +kernel) (pa_cons (pe_call (ok__law_cell E) (hr.mono (by decide)) rfl E.g__law_cell E.k__law_cell E.b__law_cell .nil pass0 (pa_cons (pe_ix ix_list (pv 0) pe_int (fun _ _ => rfl)) (pa_cons (pe_op op_mod (pe_ix ix_list (pv 0) pe_int (fun _ _ => rfl)) (pe_callB (cr_max2 rfl) (by rfl) E.bn_max (by decide +kernel) (pa_cons pe_int (pa_cons (pe_callB cr_len (by rfl) E.bn_len (by decide +kernel) (pa_cons (pe_ix ix_list (pv 0) pe_int (fun _ _ => rfl)) pa_nil)) pa_nil)))) pa_nil))) pa_nil)))
     (pss_cons (ps_asg (pe_op op_add (pe_ix ix_list (pv 0) pe_int (fun _ _ => rfl)) pe_int) (pg_sub (pv 0) pe_int set_list))
     (pss_cons (ps_asg (pe_op op_mod (pe_op op_add (pe_op op_add (pe_op op_mul (pe_ix ix_list (pv 0) pe_int (fun _ _ => rfl)) pe_int) pe_int) (pv 2)) pe_int) (pg_sub (pv 0) pe_int set_list))
     (pss_one (ps_ret (pe_op op_mod (pe_op op_fdiv (pe_ix ix_list (pv 0) pe_int (fun _ _ => rfl)) pe_int) (pv 1))))))))), fun vs ps Φ h => ?_⟩
        obtain ⟨p, a, ns, most, R, rfl, pk, rd, hl, hm, q⟩ := h
        try dsimp only [cxOf]
        show Ws _ _ _ _ _ [_, _, _, _] _
        refine Ws.ent (Ent.perm pk.perm) (Ws.dice fun x j b => ?_)
        ktf_call "go"
        refine iteD (fun hb => ?_) (fun hb => ?_)
        · obtain ⟨r, e1, e2⟩ := mod_nat (i := b) hm.1
          ktf_call "go"
          rw [e1]
          ktf_call "go"
          refine w2_I hm ?_
          ktf_call "go"
          exact OutP.mk' Ent.dice (q r e2)
        · obtain ⟨r, e1, e2⟩ := mod_nat (i := j) (m := max 1 (ns.length : Int)) (by omega)
          ktf_call "go"
          rw [List.length_map, e1]
          ktf_call "go"
          generalize hz : ((x * 48271 + 11 + ((ns.getD (Int.toNat r) 0).natAbs : Int)) % 2147483647) / 64 = z
          obtain ⟨t, e3, e4⟩ := mod_nat (i := z) hm.1
          rw [e3]
          exact OutP.mk' Ent.dice (q t e4)) only [↓Bx.tr]
end
/-! ### drawn deeds -/
def S_ldeed (K : PySem.W.Frag) : SP := fun vs ps Φ => ∃ (p a : Addr) (ns : List Int) (R : List HP) (wd : Wd), vs = [.ref p, .str wd.str] ∧ Pick (dice p a) ps R ∧ RdL K R a (ns.map V.int) ∧ ns.length ≤ 1000 ∧ ∀ (q : Addr) (d : Deed), d.wd = wd → d.ok → Φ (.ref q) (pt q (.tup d.vals) :: dice p a :: R)
section
variable {P : Program} {w : World} {K : PySem.W.Frag} {mg : Str → Option Value} {base : Heap}
theorem ok__law_deed (E : Env K mg) : FnOk P w K mg base CX0 3 E.f__law_deed E.fd__law_deed ["_law_d", "_law_word"] (spS (S_ldeed K)) := by
  refine Bx.out ?_
  simp (disch := with_unfolding_all
      refine okS E.F__law_deed sc__law_deed (fun vs ps Φ h => ?_) (fun cdv A outer s H E0 hr => ?_)
      · obtain ⟨p, a, ns, R, wd, rfl, _⟩ := h; rfl
      · refine ⟨_, ((pss_cons (ps_if (pt_cmpR op_in_seq (pv 1) (pe_lst (pa_cons pe_str (pa_cons pe_str (pa_cons pe_str (pa_cons pe_str pa_nil))))) (by rfl)) (pss_one (ps_ret (pe_tup (pa_cons (pv 1) (pa_cons (pe_ix ix_list (pe_lst (pa_cons (pe_call (ok__law_off E) (hr.mono (by decide)) rfl E.g__law_off E.k__law_off E.b__law_off .nil pass0 (pa_cons (pv 0) (pa_cons pe_int pa_nil))) (pa_cons (pe_call (ok__law_off E) (hr.mono (by decide)) rfl E.g__law_off E.k__law_off E.b__law_off .nil pass0 (pa_cons (pv 0) (pa_cons pe_int pa_nil))) pa_nil))) (pe_call (ok__law_off E) (hr.mono (by decide)) rfl E.g__law_off E.k__law_off E.b__law_off .nil pass0 (pa_cons (pv 0) (pa_cons pe_int pa_nil))) (fun _ _ => rfl)) pa_nil))))) pss_nil)
     (pss_one (ps_ret (pe_tup (pa_cons (pv 1) pa_nil)))))), fun vs ps Φ h => ?_⟩
        obtain ⟨p, a, ns, R, wd, rfl, pk, rd, hl, q⟩ := h
        try dsimp only [cxOf]
        show Ws _ _ _ _ _ [_, _] _
        refine Ws.ent (Ent.perm pk.perm) ?_
        cases wd
        case one => ktf_call "go"; exact OutP.mk' (Ent.keep (.cons .hd (by ktf_call "keep"))) (q _ .one rfl trivial)
        case count => ktf_call "go"; exact OutP.mk' (Ent.keep (.cons .hd (by ktf_call "keep"))) (q _ .count rfl trivial)
        case look => ktf_call "go"; exact OutP.mk' (Ent.keep (.cons .hd (by ktf_call "keep"))) (q _ .look rfl trivial)
        case sum => ktf_call "go"; exact OutP.mk' (Ent.keep (.cons .hd (by ktf_call "keep"))) (q _ .sum rfl trivial)
        case top => ktf_call "go"; exact OutP.mk' (Ent.keep (.cons .hd (by ktf_call "keep"))) (q _ .top rfl trivial)
        case take => ktf_call "go"; exact OutP.mk' (Ent.keep (.cons .hd (by ktf_call "keep"))) (q _ .take rfl trivial)
        case set =>
          ktf_call "go"
          rename_i r1 h1 r2 h2 _ r h3
          obtain rfl | rfl : r = 0 ∨ r = 1 := by omega
          · ktf_call "go"
            exact OutP.mk' (Ent.keep (.cons .hd (by ktf_call "keep"))) (q _ (.set r1) rfl (by show r1 < 1000; omega))
          · ktf_call "go"
            exact OutP.mk' (Ent.keep (.cons .hd (by ktf_call "keep"))) (q _ (.set r2) rfl (by show r2 < 1000; omega))
        case add =>
          ktf_call "go"
          rename_i r1 h1 r2 h2 _ r h3
          obtain rfl | rfl : r = 0 ∨ r = 1 := by omega
          · ktf_call "go"
            exact OutP.mk' (Ent.keep (.cons .hd (by ktf_call "keep"))) (q _ (.add r1) rfl (by show r1 < 1000; omega))
          · ktf_call "go"
            exact OutP.mk' (Ent.keep (.cons .hd (by ktf_call "keep"))) (q _ (.add r2) rfl (by show r2 < 1000; omega))
        case raise =>
          ktf_call "go"
          rename_i r1 h1 r2 h2 _ r h3
          obtain rfl | rfl : r = 0 ∨ r = 1 := by omega
          · ktf_call "go"
            exact OutP.mk' (Ent.keep (.cons .hd (by ktf_call "keep"))) (q _ (.raise r1) rfl (by show r1 < 1000; omega))
          · ktf_call "go"
            exact OutP.mk' (Ent.keep (.cons .hd (by ktf_call "keep"))) (q _ (.raise r2) rfl (by show r2 < 1000; omega))
        case give =>
          ktf_call "go"
          rename_i r1 h1 r2 h2 _ r h3
          obtain rfl | rfl : r = 0 ∨ r = 1 := by omega
          · ktf_call "go"
            exact OutP.mk' (Ent.keep (.cons .hd (by ktf_call "keep"))) (q _ (.give r1) rfl (by show r1 < 1000; omega))
          · ktf_call "go"
            exact OutP.mk' (Ent.keep (.cons .hd (by ktf_call "keep"))) (q _ (.give r2) rfl (by show r2 < 1000; omega))) only [↓Bx.tr]
theorem s_ldeed {K : PySem.W.Frag} {ps R : List HP} {Φ : V → List HP → Prop} {p a : Addr} {ns : List Int} {wd : Wd} {z : Str} (e : z = wd.str) (pk : Pick (dice p a) ps R) (rd : RdL K R a (ns.map V.int)) (hl : ns.length ≤ 1000) (q : ∀ (q : Addr) (d : Deed), d.wd = wd → d.ok → Φ (.ref q) (pt q (.tup d.vals) :: dice p a :: R)) : S_ldeed K [.ref p, .str z] ps Φ := ⟨p, a, ns, R, wd, by rw [e], pk, rd, hl, q⟩
end
/-! ### the law's own things: a dict; answers alike -/
def S_lplain : SP := fun vs ps Φ => ∃ m : Nat, vs = [.int m] ∧ m ≤ 1000 ∧ ∀ a, Φ (.ref a) (dictC a (Pst.new m) :: ps)
def S_lonce (K : PySem.W.Frag) : SP := fun vs ps Φ => ∃ (a q : Addr) (s : Pst) (m : Nat) (h : Int) (d : Deed) (R : List HP), vs = [.ref a, .int h, .ref q] ∧ Pick (dictC a s) ps R ∧ RdT K R q d.vals ∧ s.wf m ∧ (0 ≤ h ∧ h < m) ∧ s.line.length ≤ 1000 ∧ ∀ v, Φ v (ansC v (s.ans d) :: dictC a (s.done h d) :: R)
def S_lsame : SP := fun vs ps Φ => ∃ (v u : V) (x y : Ans) (R : List HP), vs = [v, u] ∧ Picks [ansC v x, ansC u y] ps R ∧ Φ (.bl (decide (x = y))) (ansC v x :: ansC u y :: R)
def S_lsame1 : SP := fun vs ps Φ => ∃ (i j : Int), vs = [.int i, .int j] ∧ Φ (.bl (decide (i = j))) ps
theorem s_lplain {ps : List HP} {Φ : V → List HP → Prop} {m : Nat} (h : m ≤ 1000) (k : ∀ a, Φ (.ref a) (dictC a (Pst.new m) :: ps)) : S_lplain [.int m] ps Φ := ⟨m, rfl, h, k⟩
theorem s_lonce {K : PySem.W.Frag} {ps R : List HP} {Φ : V → List HP → Prop} {a q : Addr} {s : Pst} {m : Nat} {h : Int} {d : Deed} (pk : Pick (dictC a s) ps R) (rd : RdT K R q d.vals) (w : s.wf m) (hh : 0 ≤ h ∧ h < m) (hl : s.line.length ≤ 1000) (k : ∀ v, Φ v (ansC v (s.ans d) :: dictC a (s.done h d) :: R)) : S_lonce K [.ref a, .int h, .ref q] ps Φ := ⟨a, q, s, m, h, d, R, rfl, pk, rd, w, hh, hl, k⟩
theorem s_lsame {ps R : List HP} {Φ : V → List HP → Prop} {v u : V} {x y : Ans} (pk : Picks [ansC v x, ansC u y] ps R) (k : Φ (.bl (decide (x = y))) (ansC v x :: ansC u y :: R)) : S_lsame [v, u] ps Φ := ⟨v, u, x, y, R, rfl, pk, k⟩
theorem s_lsame1 {ps : List HP} {Φ : V → List HP → Prop} {i j : Int} (k : Φ (.bl (decide (i = j))) ps) : S_lsame1 [.int i, .int j] ps Φ := ⟨i, j, rfl, k⟩
section
variable {P : Program} {w : World} {K : PySem.W.Frag} {mg : Str → Option Value} {base : Heap}
theorem ok__law_plain (E : Env K mg) : FnOk P w K mg base CX0 1 E.f__law_plain E.fd__law_plain ["_law_many"] (spS S_lplain) := by
  refine Bx.out ?_
  simp (disch := with_unfolding_all
      refine okS E.F__law_plain sc__law_plain (fun vs ps Φ h => ?_) (fun cdv A outer s H E0 hr => ?_)
      · obtain ⟨m, rfl, _⟩ := h; rfl
      · refine ⟨_, ((pss_one (ps_ret (pe_disp (pps_cons pe_str pe_int (pps_cons pe_str (pe_op op_rep (pe_lst (pa_cons pe_int pa_nil)) (pv 0)) (pps_cons pe_str (pe_op op_rep (pe_lst (pa_cons pe_int pa_nil)) (pv 0)) (pps_cons pe_str (pe_op op_rep (pe_lst (pa_cons pe_int pa_nil)) (pv 0)) (pps_cons pe_str (pe_lst pa_nil) pps_nil))))) (by rfl) (by rfl) (fun z => by cases z) (by decide))))), fun vs ps Φ h => ?_⟩
        obtain ⟨m, rfl, hm, k⟩ := h
        try dsimp only [cxOf]
        show Ws _ _ _ _ _ [_] _
        ktf_call "go"
        have k2 := k
        simp only [Int.toNat_natCast]
        refine OutP.mk' (Ent.keep ?_) (k _)
        dsimp only [Pst.new]
        refine' Keep.fold Ent.dictC ?w1
        case w1 =>
          simp only [List.map_nil]
          ktf_call "keep") only [↓Bx.tr]
theorem ok__law_at_once (E : Env K mg) : FnOk P w K mg base CX0 1 E.f__law_at_once E.fd__law_at_once ["_law_plain_here", "_law_hand", "_law_deed_here"] (spS (S_lonce K)) := by
  refine Bx.out ?_
  simp (disch := with_unfolding_all
      refine okS E.F__law_at_once sc__law_at_once (fun vs ps Φ h => ?_) (fun cdv A outer s H E0 hr => ?_)
      · obtain ⟨a, q, s, m, h, d, R, rfl, _⟩ := h; rfl
      · have hu := hu_of hr
        refine ⟨_, ((pss_cons (ps_set (i := 3) sc__law_at_once.nd rfl (by first | exact Or.inl rfl | exact Or.inr rfl) (pe_ix ix_tup (pv 2) pe_int (fun _ _ => rfl)))
     (Evl.pss_cut (ps_if (pt_cmpR op_eq (pv 3) pe_str (nomark _)) (pss_one (ps_dput hu (pv 0) pe_str (pe_op op_add (pe_dget hu (pv 0) pe_str (fun _ _ => rfl)) pe_int) rfl)) (pss_one (ps_if (pt_cmpR op_eq (pv 3) pe_str (nomark _)) (pss_one (ps_asg (pe_ix ix_tup (pv 2) pe_int (fun _ _ => rfl)) (pg_sub (pe_dget hu (pv 0) pe_str (fun _ _ => rfl)) (pv 1) set_list))) (pss_one (ps_if (pt_cmpR op_eq (pv 3) pe_str (nomark _)) (pss_one (ps_asg (pe_op op_add (pe_ix ix_list (pe_dget hu (pv 0) pe_str (fun _ _ => rfl)) (pv 1) (fun _ _ => rfl)) (pe_ix ix_tup (pv 2) pe_int (fun _ _ => rfl))) (pg_sub (pe_dget hu (pv 0) pe_str (fun _ _ => rfl)) (pv 1) set_list))) (pss_one (ps_if (pt_cmpR op_eq (pv 3) pe_str (nomark _)) (pss_one (ps_asg (pe_callB (cr_max2 rfl) (by rfl) E.bn_max (by decide +kernel) (pa_cons (pe_ix ix_list (pe_dget hu (pv 0) pe_str (fun _ _ => rfl)) (pv 1) (fun _ _ => rfl)) (pa_cons (pe_ix ix_tup (pv 2) pe_int (fun _ _ => rfl)) pa_nil))) (pg_sub (pe_dget hu (pv 0) pe_str (fun _ _ => rfl)) (pv 1) set_list))) (pss_one (ps_if (pt_cmpR op_eq (pv 3) pe_str (nomark _)) (pss_one (ps_expr (pe_bm PySem.F.plainAttrs_list PySem.F.slot_list_append PySem.F.type_list_append mt_append (pe_dget hu (pv 0) pe_str (fun _ _ => rfl)) (pa_cons (pe_ix ix_tup (pv 2) pe_int (fun _ _ => rfl)) pa_nil)))) (pss_one (ps_if (pt_cmpR op_eq (pv 3) pe_str (nomark _)) (pss_one (ps_ret (pe_dget hu (pv 0) pe_str (fun _ _ => rfl)))) (pss_one (ps_if (pt_cmpR op_eq (pv 3) pe_str (nomark _)) (pss_one (ps_ret (pe_callTy cr_tupOf (by rfl) E.bn_tuple (by decide +kernel) (pa_cons (pe_dget hu (pv 0) pe_str (fun _ _ => rfl)) pa_nil)))) (pss_one (ps_if (pt_cmpR op_eq (pv 3) pe_str (nomark _)) (pss_one (ps_ret (pe_callB (cr_sum rfl) (by rfl) E.bn_sum (by decide +kernel) (pa_cons (pe_dget hu (pv 0) pe_str (fun _ _ => rfl)) pa_nil)))) (pss_one (ps_if (pt_cmpR op_eq (pv 3) pe_str (nomark _)) (pss_one (ps_ret (pe_callB (cr_max rfl) (by rfl) E.bn_max (by decide +kernel) (pa_cons (pe_dget hu (pv 0) pe_str (fun _ _ => rfl)) pa_nil)))) (pss_one (ps_if (pt_cmpR (op_neD hr.units) (pe_dget hu (pv 0) pe_str (fun _ _ => rfl)) (pe_lst pa_nil) (nomark _)) (pss_one (ps_ret (pe_bm PySem.F.plainAttrs_list PySem.F.slot_list_pop PySem.F.type_list_pop mt_popAt (pe_dget hu (pv 0) pe_str (fun _ _ => rfl)) (pa_cons pe_int pa_nil)))) pss_nil)))))))))))))))))))
     (pss_one (ps_ret pe_non))))), fun vs ps Φ h => ?_⟩
        obtain ⟨a, q, s, m, h, d, R, rfl, pk, rd, wf, hh, hl, k⟩ := h
        try dsimp only [cxOf]
        show Ws _ _ _ _ _ [_, _, _, _] _
        obtain ⟨w1, w2, w3⟩ := wf
        refine Ws.ent (Ent.perm pk.perm) (Ws.dictC fun q1 q2 q3 q4 => ?_)
        cases d
        all_goals simp only [Deed.vals] at rd
        all_goals ktf_call "go"
        all_goals refine ws_plain ?_
        all_goals ktf_call "go"
        all_goals first | ((dsimp only [Pst.ans, Pst.done] at k); (refine OutP.mk' ?_ (k _)); ktf_call "ent") | skip
        refine iteND (fun e => ?_) (fun e => ?_)
        · cases he : s.line with
          | nil => exact absurd he e
          | cons x r =>
            simp only [Pst.ans, Pst.done, he, List.tail_cons] at k
            ktf_call "go"
            exact OutP.mk' (by ktf_call "ent") (k _)
        · ktf_call "go"
          simp only [Pst.ans, Pst.done, e, List.tail_nil] at k
          rw [e]
          exact OutP.mk' (by ktf_call "ent") (k _)) only [↓Bx.tr]
end
/-! ### class Plain -/
section
variable {P : Program} {w : World} {K : PySem.W.Frag} {mg : Str → Option Value} {base : Heap}
def S_pinit (E : Env K mg) : SP := fun vs ps Φ => ∃ (x : Addr) (m : Nat) (R : List HP), vs = [.ref x, .int m] ∧ ps = obj E.i_Plain x [] :: R ∧ m ≤ 1000 ∧ Φ .non (plainC E.i_Plain x m (Pst.new m) :: R)
def S_pchanged (E : Env K mg) : SP := fun vs ps Φ => ∃ (x q : Addr) (m : Nat) (s : Pst) (h : Int) (d : Deed) (R : List HP), vs = [.ref x, .int h, .ref q] ∧ Pick (plainC E.i_Plain x m s) ps R ∧ RdT K R q d.vals ∧ s.wf m ∧ (0 ≤ h ∧ h < m) ∧ s.line.length ≤ 1000 ∧ d.changes ∧ Φ .non (plainC E.i_Plain x m (s.done h d) :: R)
def S_pdone (E : Env K mg) : SP := fun vs ps Φ => ∃ (x q : Addr) (m : Nat) (s : Pst) (h : Int) (d : Deed) (R : List HP), vs = [.ref x, .int h, .ref q] ∧ Pick (plainC E.i_Plain x m s) ps R ∧ RdT K R q d.vals ∧ s.wf m ∧ (0 ≤ h ∧ h < m) ∧ s.line.length ≤ 1000 ∧ ∀ v, Φ v (ansC v (s.ans d) :: plainC E.i_Plain x m (s.done h d) :: R)
theorem s_pinit {E : Env K mg} {R : List HP} {Φ : V → List HP → Prop} {x : Addr} {m : Nat} (h : m ≤ 1000) (k : Φ .non (plainC E.i_Plain x m (Pst.new m) :: R)) : S_pinit E [.ref x, .int m] (obj E.i_Plain x [] :: R) Φ := ⟨x, m, R, rfl, rfl, h, k⟩
theorem s_pchanged {E : Env K mg} {ps R : List HP} {Φ : V → List HP → Prop} {x q : Addr} {m : Nat} {s : Pst} {h : Int} {d : Deed} (pk : Pick (plainC E.i_Plain x m s) ps R) (rd : RdT K R q d.vals) (w : s.wf m) (hh : 0 ≤ h ∧ h < m) (hl : s.line.length ≤ 1000) (dc : d.changes) (k : Φ .non (plainC E.i_Plain x m (s.done h d) :: R)) : S_pchanged E [.ref x, .int h, .ref q] ps Φ := ⟨x, q, m, s, h, d, R, rfl, pk, rd, w, hh, hl, dc, k⟩
theorem s_pdone {E : Env K mg} {ps R : List HP} {Φ : V → List HP → Prop} {x q : Addr} {m : Nat} {s : Pst} {h : Int} {d : Deed} (pk : Pick (plainC E.i_Plain x m s) ps R) (rd : RdT K R q d.vals) (w : s.wf m) (hh : 0 ≤ h ∧ h < m) (hl : s.line.length ≤ 1000) (k : ∀ v, Φ v (ansC v (s.ans d) :: plainC E.i_Plain x m (s.done h d) :: R)) : S_pdone E [.ref x, .int h, .ref q] ps Φ := ⟨x, q, m, s, h, d, R, rfl, pk, rd, w, hh, hl, k⟩
theorem ok_Plain_init (E : Env K mg) : FnOk P w K mg base CX0 1 E.f_Plain_init E.fd_Plain_init ["self", "many"] (spS (S_pinit E)) := by
  refine Bx.out ?_
  simp (disch := with_unfolding_all
      refine okS E.F_Plain_init sc_Plain_init (fun vs ps Φ h => ?_) (fun cdv A outer s H E0 hr => ?_)
      · obtain ⟨x, m, R, rfl, _⟩ := h; rfl
      · refine ⟨_, ((pss_cons (ps_fld (pv 0) (pv 1) rfl)
     (pss_cons (ps_fld (pv 0) pe_int rfl)
     (pss_cons (ps_fld (pv 0) (pe_op op_rep (pe_lst (pa_cons pe_int pa_nil)) (pv 1)) rfl)
     (pss_cons (ps_fld (pv 0) (pe_op op_rep (pe_lst (pa_cons pe_int pa_nil)) (pv 1)) rfl)
     (pss_cons (ps_fld (pv 0) (pe_op op_rep (pe_lst (pa_cons pe_int pa_nil)) (pv 1)) rfl)
     (pss_one (ps_fld (pv 0) (pe_lst pa_nil) rfl)))))))), fun vs ps Φ h => ?_⟩
        obtain ⟨x, m, R, rfl, rfl, hm, k⟩ := h
        try dsimp only [cxOf]
        show Ws _ _ _ _ _ [_, _] _
        ktf_call "go"
        refine OutP.mk' (Ent.keep ?_) k
        dsimp only [Pst.new]
        refine' Keep.fold Ent.plainC ?w1
        case w1 =>
          simp only [List.map_nil, Int.toNat_natCast]
          ktf_call "keep") only [↓Bx.tr]
theorem ok_Plain_changed (E : Env K mg) : FnOk P w K mg base CX0 1 E.f_Plain_changed E.fd_Plain_changed ["self", "hand", "deed"] (spS (S_pchanged E)) := by
  refine Bx.out ?_
  simp (disch := with_unfolding_all
      refine okS E.F_Plain_changed sc_Plain_changed (fun vs ps Φ h => ?_) (fun cdv A outer s H E0 hr => ?_)
      · obtain ⟨x, q, m, s, h, d, R, rfl, _⟩ := h; rfl
      · refine ⟨_, ((pss_one (ps_if (pt_cmpR op_eq (pe_ix ix_tup (pv 2) pe_int (fun _ _ => rfl)) pe_str (nomark _)) (pss_one (ps_fld (pv 0) (pe_op op_add (pe_fld (pv 0) rfl) pe_int) rfl)) (pss_one (ps_if (pt_cmpR op_eq (pe_ix ix_tup (pv 2) pe_int (fun _ _ => rfl)) pe_str (nomark _)) (pss_one (ps_asg (pe_ix ix_tup (pv 2) pe_int (fun _ _ => rfl)) (pg_sub (pe_fld (pv 0) rfl) (pv 1) set_list))) (pss_one (ps_if (pt_cmpR op_eq (pe_ix ix_tup (pv 2) pe_int (fun _ _ => rfl)) pe_str (nomark _)) (pss_one (ps_asg (pe_op op_add (pe_ix ix_list (pe_fld (pv 0) rfl) (pv 1) (fun _ _ => rfl)) (pe_ix ix_tup (pv 2) pe_int (fun _ _ => rfl))) (pg_sub (pe_fld (pv 0) rfl) (pv 1) set_list))) (pss_one (ps_if (pt_cmpR op_eq (pe_ix ix_tup (pv 2) pe_int (fun _ _ => rfl)) pe_str (nomark _)) (pss_one (ps_asg (pe_callB (cr_max2 rfl) (by rfl) E.bn_max (by decide +kernel) (pa_cons (pe_ix ix_list (pe_fld (pv 0) rfl) (pv 1) (fun _ _ => rfl)) (pa_cons (pe_ix ix_tup (pv 2) pe_int (fun _ _ => rfl)) pa_nil))) (pg_sub (pe_fld (pv 0) rfl) (pv 1) set_list))) (pss_one (ps_expr (pe_bm PySem.F.plainAttrs_list PySem.F.slot_list_append PySem.F.type_list_append mt_append (pe_fld (pv 0) rfl) (pa_cons (pe_ix ix_tup (pv 2) pe_int (fun _ _ => rfl)) pa_nil))))))))))))), fun vs ps Φ h => ?_⟩
        obtain ⟨x, q, m, s, h, d, R, rfl, pk, rd, ⟨w1, w2, w3⟩, hh, hl, dc, k⟩ := h
        try dsimp only [cxOf]
        show Ws _ _ _ _ _ [_, _, _] _
        refine Ws.ent (Ent.perm pk.perm) (Ws.plainC fun q1 q2 q3 q4 => ?_)
        cases d
        all_goals try exact dc.elim
        all_goals simp only [Deed.vals] at rd
        all_goals ktf_call "go"
        all_goals dsimp only [Pst.done] at k
        all_goals refine OutP.mk' ?_ k
        all_goals ktf_call "ent") only [↓Bx.tr]
theorem ok_Plain_done (E : Env K mg) : FnOk P w K mg base CX0 2 E.f_Plain_done E.fd_Plain_done ["self", "hand", "deed"] (spS (S_pdone E)) := by
  refine Bx.out ?_
  simp (disch := with_unfolding_all
      refine okS E.F_Plain_done sc_Plain_done (fun vs ps Φ h => ?_) (fun cdv A outer s H E0 hr => ?_)
      · obtain ⟨x, q, m, s, h, d, R, rfl, _⟩ := h; rfl
      · refine ⟨_, ((pss_cons (ps_set (i := 3) sc_Plain_done.nd rfl (by first | exact Or.inl rfl | exact Or.inr rfl) (pe_ix ix_tup (pv 2) pe_int (fun _ _ => rfl)))
     (pss_cons (ps_if (pt_cmpR op_in_seq (pv 3) (pe_tup (pa_cons pe_str (pa_cons pe_str (pa_cons pe_str (pa_cons pe_str (pa_cons pe_str pa_nil)))))) (by rfl)) (pss_cons (ps_expr (pe_meth (pv 0) E.i_Plain.cls E.m_Plain_changed (ok_Plain_changed E) (hr.mono (by decide)) E.b_Plain_changed .nil pass0 (pa_cons (pv 1) (pa_cons (pv 2) pa_nil))))
     (pss_one (ps_ret pe_non))) pss_nil)
     (pss_cons (ps_if (pt_cmpR op_eq (pv 3) pe_str (nomark _)) (pss_one (ps_ret (pe_fld (pv 0) rfl))) pss_nil)
     (pss_cons (ps_if (pt_cmpR op_eq (pv 3) pe_str (nomark _)) (pss_one (ps_ret (pe_callTy cr_tupOf (by rfl) E.bn_tuple (by decide +kernel) (pa_cons (pe_fld (pv 0) rfl) pa_nil)))) pss_nil)
     (pss_cons (ps_if (pt_cmpR op_eq (pv 3) pe_str (nomark _)) (pss_one (ps_ret (pe_callB (cr_sum rfl) (by rfl) E.bn_sum (by decide +kernel) (pa_cons (pe_fld (pv 0) rfl) pa_nil)))) pss_nil)
     (pss_cons (ps_if (pt_cmpR op_eq (pv 3) pe_str (nomark _)) (pss_one (ps_ret (pe_callB (cr_max rfl) (by rfl) E.bn_max (by decide +kernel) (pa_cons (pe_fld (pv 0) rfl) pa_nil)))) pss_nil)
     (pss_cons (ps_if (pt_cmpR (op_eqD hr.units) (pe_fld (pv 0) rfl) (pe_lst pa_nil) (nomark _)) (pss_one (ps_ret pe_non)) pss_nil)
     (pss_one (ps_ret (pe_bm PySem.F.plainAttrs_list PySem.F.slot_list_pop PySem.F.type_list_pop mt_popAt (pe_fld (pv 0) rfl) (pa_cons pe_int pa_nil)))))))))))), fun vs ps Φ h => ?_⟩
        obtain ⟨x, q, m, s, h, d, R, rfl, pk, rd, wf, hh, hl, k⟩ := h
        try dsimp only [cxOf]
        show Ws _ _ _ _ _ [_, _, _, _] _
        by_cases dc : d.changes
        · have e0 : s.ans d = .non := by cases d <;> first | rfl | exact dc.elim
          rw [e0] at k
          refine Ws.ent (Ent.perm pk.perm) ?_
          cases d
          all_goals try exact dc.elim
          all_goals simp only [Deed.vals] at rd
          all_goals ktf_call "go"
          all_goals refine s_pchanged (by ktf_call "pick") (by simp only [Deed.vals]; ktf_call "rdt") wf hh hl dc ?_
          all_goals ktf_call "go"
          all_goals exact OutP.mk' (by ktf_call "ent") (k _)
        obtain ⟨w1, w2, w3⟩ := wf
        refine Ws.ent (Ent.perm pk.perm) (Ws.plainC fun q1 q2 q3 q4 => ?_)
        cases d
        all_goals try exact absurd trivial dc
        all_goals simp only [Deed.vals] at rd
        all_goals ktf_call "go"
        all_goals first | ((dsimp only [Pst.ans, Pst.done] at k); (refine OutP.mk' ?_ (k _)); ktf_call "ent") | skip
        refine iteD (fun e => ?_) (fun e => ?_)
        · ktf_call "go"
          simp only [Pst.ans, Pst.done, e, List.tail_nil] at k
          rw [e]
          exact OutP.mk' (by ktf_call "ent") (k _)
        · ktf_call "go"
          cases he : s.line with
          | nil => exact absurd he e
          | cons x r =>
            simp only [Pst.ans, Pst.done, he, List.tail_cons] at k
            ktf_call "go"
            exact OutP.mk' (by ktf_call "ent") (k _)) only [↓Bx.tr]
end
/-! ### keeps: is the order one of the records' -/
section
variable {K : PySem.W.Frag}
def S_keeps (K : PySem.W.Frag) : SP := fun vs ps Φ => ∃ (rp op : Addr) (L : List (Addr × List V)) (as : List Addr) (rs : List Rec) (order : List Int) (m : Nat), vs = [.ref rp, .ref op, .int m] ∧ tups L ∈ ps ∧ pt rp (.lst (as.map V.ref)) ∈ ps ∧ pt op (.lst (order.map V.int)) ∈ ps ∧ RecsIn L as rs ∧ (∀ r, r ∈ rs → 0 ≤ r.hand ∧ r.hand < m) ∧ (rs.length ≤ 1000 ∧ order.length ≤ 1000 ∧ m ≤ 1000 ∧ 0 < m) ∧ Φ (.bl (keepsF rs order m)) ps
theorem z_keeps {ps : List HP} {Φ : V → List HP → Prop} {rp op : Addr} {L : List (Addr × List V)} {as : List Addr} {rs : List Rec} {order : List Int} {m : Nat} (m1 : tups L ∈ ps) (m2 : pt rp (.lst (as.map V.ref)) ∈ ps) (m3 : pt op (.lst (order.map V.int)) ∈ ps) (hr : RecsIn L as rs) (hh : ∀ r, r ∈ rs → 0 ≤ r.hand ∧ r.hand < m) (hl : rs.length ≤ 1000 ∧ order.length ≤ 1000 ∧ m ≤ 1000 ∧ 0 < m) (k : Φ (.bl (keepsF rs order m)) ps) : S_keeps K [.ref rp, .ref op, .int m] ps Φ := ⟨rp, op, L, as, rs, order, m, rfl, m1, m2, m3, hr, hh, hl, k⟩
end
section
variable {P : Program} {w : World} {K : PySem.W.Frag} {mg : Str → Option Value} {base : Heap}
theorem ok__law_keeps (E : Env K mg) : FnOk P w K mg base CX0 2 E.f__law_keeps E.fd__law_keeps ["_law_records", "_law_order", "_law_many"] (spS (S_keeps K)) := by
  refine Bx.out ?_
  simp (disch := with_unfolding_all
      refine okS E.F__law_keeps sc__law_keeps (fun vs ps Φ h => ?_) (fun cdv A outer s H E0 hr => ?_)
      · obtain ⟨rp, op, L, as, rs, order, m, rfl, _⟩ := h; rfl
      · refine ⟨_, ((pss_cons (ps_if (PW.pt (pw_or (pt_not (pt_val (pe_callB cr_isi (by rfl) E.bn_isinstance (by decide +kernel) (pa_cons (pv 1) (pa_cons (pe_bltn (v := .ty "list") (by rfl) E.bn_list (by decide +kernel) rfl) pa_nil))))) (pw_or1 (pt_cmpR (op_neD hr.units) (pe_callB cr_sortedI (by rfl) E.bn_sorted (by decide +kernel) (pa_cons (pv 1) pa_nil)) (pe_listRg rfl (by rfl) E.bn_list (prg_1 (by rfl) E.bn_range (pe_callB cr_len (by rfl) E.bn_len (by decide +kernel) (pa_cons (pv 0) pa_nil)))) (nomark _))))) (pss_one (ps_ret pe_bl)) pss_nil)
     (pss_cons (ps_set (i := 3) sc__law_keeps.nd rfl (by first | exact Or.inl rfl | exact Or.inr rfl) (pe_call (ok__law_plain E) (hr.mono (by decide)) rfl E.g__law_plain E.k__law_plain E.b__law_plain .nil pass0 (pa_cons (pv 2) pa_nil)))
     (pss_cons (ps_set (i := 4) sc__law_keeps.nd rfl (by first | exact Or.inl rfl | exact Or.inr rfl) (pe_un un_neg pe_int))
     (pss_cons (ps_for PassesOwn.never rfl (pi_list (pv 1)) (pg_name (i := 5) sc__law_keeps.nd rfl (by first | exact Or.inl rfl | exact Or.inr rfl)) (pss_cons (ps_asg (pe_ix ix_list (pv 0) (pv 5) (fun _ _ => rfl)) (pg_tup rfl (pgs_cons (pg_name (i := 6) sc__law_keeps.nd rfl (by first | exact Or.inl rfl | exact Or.inr rfl)) (pgs_cons (pg_name (i := 7) sc__law_keeps.nd rfl (by first | exact Or.inl rfl | exact Or.inr rfl)) (pgs_cons (pg_name (i := 8) sc__law_keeps.nd rfl (by first | exact Or.inl rfl | exact Or.inr rfl)) (pgs_cons (pg_name (i := 9) sc__law_keeps.nd rfl (by first | exact Or.inl rfl | exact Or.inr rfl)) (pgs_cons (pg_name (i := 10) sc__law_keeps.nd rfl (by first | exact Or.inl rfl | exact Or.inr rfl)) pgs_nil)))))))
     (pss_cons (ps_if (PW.pt (pw_or (pt_cmpR op_lt (pv 9) (pv 4) (nomark _)) (pw_or1 (pt_cmpR (op_neD hr.units) (pe_call (ok__law_at_once E) (hr.mono (by decide)) rfl E.g__law_at_once E.k__law_at_once E.b__law_at_once .nil pass0 (pa_cons (pv 3) (pa_cons (pv 6) (pa_cons (pv 7) pa_nil)))) (pv 10) (nomark _))))) (pss_one (ps_ret pe_bl)) pss_nil)
     (pss_one (ps_set (i := 4) sc__law_keeps.nd rfl (by first | exact Or.inl rfl | exact Or.inr rfl) (pe_callB (cr_max2 rfl) (by rfl) E.bn_max (by decide +kernel) (pa_cons (pv 4) (pa_cons (pv 8) pa_nil))))))))
     (pss_one (ps_ret pe_bl))))))), fun vs ps Φ h => ?_⟩
        obtain ⟨rp, op, L, as, rs, order, m, rfl, m1, m2, m3, hr, hh, ⟨l1, l2, l3, l4⟩, k⟩ := h
        try dsimp only [cxOf]
        show Ws _ _ _ _ _ [_, _, _, _, _, _, _, _, _, _, _] _
        have la : as.length ≤ 1000 := by rw [hr.1]; exact l1
        have rd1 : RdL K ps op (order.map V.int) := rdl_pt m3
        have rd2 : RdL K ps rp (as.map V.ref) := rdl_pt m2
        ktf_call "go"
        rename_i ms q1 hp hs _
        refine iteND (fun hne => ?_) (fun heq => ?_)
        · ktf_call "go"
          have hb : keepsF rs order m = false := by
            unfold keepsF
            rw [decide_eq_false (fun z => hne ?_)]
            · rfl
            · rw [List.length_map, hr.1]
              exact (sorted_is hp hs).mpr z
          rw [hb] at k
          exact OutP.mk' (by ktf_call "ent") k
        have hperm : order.Perm (upto rs.length) := (sorted_is hp hs).mp (by rw [heq, List.length_map, hr.1])
        have hb : keepsF rs order m = kgo rs order (Pst.new m) (-1) := by
          unfold keepsF
          rw [decide_eq_true hperm]; rfl
        rw [hb] at k
        ktf_call "go"
        refine s_lplain (by omega) fun pd => ?_
        ktf_call "go"
        refine ws_for (wi_L ?_)
        ktf_call "go"
        refine ⟨op, _, rfl, by ktf_call "rdl", fun i σ ps' => ∃ v5 v6 v7 v8 v9 v10 s l, σ = [some (.ref rp), some (.ref op), some (.int m), some (.ref pd), some (.int l), v5, v6, v7, v8, v9, v10] ∧ (s.wf m ∧ s.line.length ≤ i ∧ kgo rs order (Pst.new m) (-1) = kgo rs (order.drop i) s l) ∧ Ent ps' (dictC pd s :: ps), ⟨none, none, none, none, none, none, _, _, rfl, ⟨Pst.new_wf m, Nat.le_refl _, rfl⟩, by ktf_call "ent"⟩, ?_, ?_, ?_⟩
        · rintro i σ ps' ⟨v5, v6, v7, v8, v9, v10, s, l, rfl, _, e⟩ _
          exact RdL.ent e (by ktf_call "rdl")
        · rintro i x ex σ ps' hi ⟨hx, rfl⟩ ⟨v5, v6, v7, v8, v9, v10, s, l, rfl, ⟨wf, hl, hg⟩, e⟩
          replace hi : i < order.length := by simpa [srcL] using hi
          rw [List.getElem?_map, List.getElem?_eq_getElem hi] at hx
          obtain rfl := Option.some.inj hx
          have hpl := upto_mem (hperm.mem_iff.mp (List.getElem_mem hi))
          refine Wg.ent e ?_
          ktf_call "go"
          obtain ⟨p, hp⟩ : ∃ p : Nat, order[i] = p := ⟨order[i].toNat, (Int.toNat_of_nonneg hpl.1).symm⟩
          have hpr : p < rs.length := by omega
          obtain ⟨r, hrr⟩ : ∃ r, rs[p]? = some r := ⟨_, List.getElem?_eq_getElem hpr⟩
          have hmem : r ∈ rs := List.mem_of_getElem? hrr
          have hhand := hh r hmem
          have hal := hr.1
          rw [hp]
          refine w2_ixM (by ktf_call "rdl") ⟨by omega, by omega⟩ fun x hx => ?_
          rw [Int.toNat_natCast] at hx
          obtain ⟨g1, g2, g3⟩ := hr.2 p x r hx hrr
          simp only [Rec.vals] at g1
          have hk : kgo rs (order.drop i) s l = if r.e < l ∨ s.ans r.deed ≠ r.an then false else kgo rs (order.drop (i + 1)) (s.done r.hand r.deed) (max l r.b) := by
            rw [List.drop_eq_getElem_cons hi, hp]
            simp only [kgo, Int.toNat_natCast, hrr]
          rw [hk] at hg
          ktf_call "go"
          refine iteD (fun hel => ?_) (fun hel => ?_)
          · rw [if_pos (.inl hel)] at hg
            refine iteTe rfl ?_
            ktf_call "go"
            rw [hg] at k
            exact OutP.mk' (by ktf_call "ent") k
          ktf_call "go"
          refine s_lonce (by ktf_call "pick") (by ktf_call "rdt") wf hhand (by omega) fun v => ?_
          ktf_call "go"
          refine iteND (fun hne => ?_) (fun heq => ?_)
          · rw [if_pos (.inr hne)] at hg
            ktf_call "go"
            rw [hg] at k
            exact OutP.mk' (by ktf_call "ent") k
          · rw [if_neg (by rintro (z | z); exact hel z; exact z heq)] at hg
            ktf_call "go"
            exact ⟨_, _, _, _, _, _, _, _, rfl, ⟨Pst.done_wf wf, Nat.le_trans Pst.done_line (by omega), hg⟩, by ktf_call "ent"⟩
        rintro σ ps' ⟨v5, v6, v7, v8, v9, v10, s, l, rfl, ⟨wf, hl, hg⟩, e⟩
        refine Ws.ent e ?_
        ktf_call "go"
        have hn : order.drop (srcL K op (order.map V.int)).n = [] := List.drop_eq_nil_of_le (by simp [srcL])
        rw [hn] at hg
        rw [hg] at k
        exact OutP.mk' (by ktf_call "ent") k) only [↓Bx.tr]
end
/-! ### the search for an order -/
theorem open_plainC {K : PySem.W.Frag} {names : List Str} {I : CI K names} {ps R : List HP} {a : Addr} {m : Nat} {s : Pst} {H : Hp} (pk : Pick (plainC I a m s) ps R) (z : Sat H ps) : ∃ q : Addr × Addr × Addr × Addr, Sat H (obj I a [("many", .int m), ("counted", .int s.ones), ("cells", .ref q.1), ("sums", .ref q.2.1), ("tops", .ref q.2.2.1), ("line", .ref q.2.2.2)] ::
    pt q.1 (.lst (s.cells.map V.int)) :: pt q.2.1 (.lst (s.sums.map V.int)) :: pt q.2.2.1 (.lst (s.tops.map V.int)) :: pt q.2.2.2 (.lst (s.line.map V.int)) :: R) := by
  have z := z.perm pk.perm
  unfold plainC at z
  obtain ⟨q, z⟩ := Sat.ex.mp z
  exact ⟨q, Sat.grp.mp z⟩
/-- states noted from which no order goes on -/
def Dead (rs : List Rec) (xs : List NEnt) : Prop := ∀ x ∈ xs, ∃ (left : List Int) (s : Pst), x.1 = keyN left s ∧ ¬ Mir.Has rs s left
theorem Dead.at {rs : List Rec} {xs : List NEnt} {left : List Int} {s : Pst} (h : Dead rs xs) (z : (atKey xs (keyN left s)).isSome = true) : ¬ Mir.Has rs s left := by
  obtain ⟨x, hx, e⟩ := at_mem z
  obtain ⟨l2, s2, e2, n⟩ := h x hx
  obtain ⟨rfl, rfl⟩ := keyN_inj (e2.symm.trans e)
  exact n
theorem Dead.put {rs : List Rec} {xs : List NEnt} {left : List Int} {s : Pst} {a : Addr} {v : Value} (h : Dead rs xs) (n : ¬ Mir.Has rs s left) : Dead rs (storedH xs (keyN left s) a v) := fun y hy => by
  rcases stored_mem hy with ⟨x, hx, e, _⟩ | ⟨e, _⟩
  · obtain ⟨l2, s2, e2, n2⟩ := h x hx
    exact ⟨l2, s2, e.trans e2, n2⟩
  · exact ⟨left, s, e, n⟩
theorem keysIn_put {L : List (Addr × List V)} {xs : List NEnt} {k : NestedKey} {a : Addr} {v : Value} (h : KeysIn L xs) (n : KeyIn L k a) : KeysIn L (storedH xs k a v) := fun y hy => by
  rcases stored_mem hy with ⟨x, hx, e1, e2⟩ | ⟨e1, e2⟩
  · rw [e1, e2]; exact h x hx
  · rw [e1, e2]; exact n
/-- records as a search takes them -/
structure SrOk (L : List (Addr × List V)) (as : List Addr) (rs : List Rec) (m : Nat) : Prop where
  recs : RecsIn L as rs
  hand : ∀ r, r ∈ rs → 0 ≤ r.hand ∧ r.hand < m
  be : ∀ r, r ∈ rs → r.b ≤ r.e
  be0 : ∀ r, r ∈ rs → -1 ≤ r.e
  m0 : 0 < m ∧ m ≤ 1000
theorem SrOk.mono {L L' : List (Addr × List V)} {as : List Addr} {rs : List Rec} {m : Nat} (h : SrOk L as rs m) (z : ∀ x ∈ L, x ∈ L') : SrOk L' as rs m := ⟨h.recs.mono z, h.hand, h.be, h.be0, h.m0⟩
theorem SrOk.at {L : List (Addr × List V)} {as : List Addr} {rs : List Rec} {m : Nat} {left : List Int} {p : Int} (h : SrOk L as rs m) (lf : Mir.Lf rs left) (hp : p ∈ left) : ∃ (j : Nat) (a : Addr) (r : Rec), p = (j : Int) ∧ j < rs.length ∧ (as.map V.ref)[j]? = some (.ref a) ∧ rs[p.toNat]? = some r ∧ r ∈ rs ∧ RecIn L a r := by
  have hb := lf.2 p hp
  obtain ⟨j, hj⟩ : ∃ j : Nat, p = (j : Int) := ⟨p.toNat, by omega⟩
  have hj2 : j < rs.length := by omega
  have hl := h.recs.1
  refine ⟨j, as[j]'(by omega), rs[j], hj, hj2, ?_, ?_, List.getElem_mem hj2, h.recs.2 j _ _ (List.getElem?_eq_getElem (by omega)) (List.getElem?_eq_getElem hj2)⟩
  · rw [List.getElem?_map, List.getElem?_eq_getElem (by omega)]; rfl
  · rw [hj, Int.toNat_natCast]; exact List.getElem?_eq_getElem hj2
section
variable {P : Program} {w : World} {K : PySem.W.Frag} {mg : Str → Option Value} {base : Heap}
def S_sinit (E : Env K mg) (P : Program) (w : World) : SP := fun vs ps Φ => ∃ (x rp : Addr) (m : Nat) (R : List HP), vs = [.ref x, .ref rp, .int m] ∧ ps = obj E.i_Search x [] :: R ∧ ∀ dp, Φ .non (obj E.i_Search x [("told", .ref rp), ("many", .int m), ("dead", .ref dp)] :: pt dp (dN P w dp []) :: R)
theorem ok_Search_init (E : Env K mg) : FnOk P w K mg base CX0 1 E.f_Search_init E.fd_Search_init ["self", "records", "many"] (spS (S_sinit E P w)) := by
  refine Bx.out ?_
  simp (disch := with_unfolding_all
      refine okS E.F_Search_init sc_Search_init (fun vs ps Φ h => ?_) (fun cdv A outer s H E0 hr => ?_)
      · obtain ⟨x, rp, m, R, rfl, _⟩ := h; rfl
      · refine ⟨_, ((pss_cons (ps_fld (pv 0) (pv 1) rfl)
     (pss_cons (ps_fld (pv 0) (pv 2) rfl)
     (pss_one (ps_fld (pv 0) Sp.pe_dnewN rfl))))), fun vs ps Φ h => ?_⟩
        obtain ⟨x, rp, m, R, rfl, rfl, k⟩ := h
        try dsimp only [cxOf]
        show Ws _ _ _ _ _ [_, _, _] _
        ktf_call "go"
        refine we_dnewN fun dp => ?_
        ktf_call "go"
        exact OutP.mk' (by ktf_call "ent") (k dp)) only [↓Bx.tr]
def S_pstate (E : Env K mg) : SP := fun vs ps Φ => ∃ (x : Addr) (m : Nat) (s : Pst) (R : List HP), vs = [.ref x] ∧ Ent ps (plainC E.i_Plain x m s :: R) ∧ ∀ a c1 c2 c3 c4, Φ (.ref a) (pt a (.tup [.int s.ones, .ref c1, .ref c2, .ref c3, .ref c4]) :: pt c1 (.tup (s.cells.map V.int)) :: pt c2 (.tup (s.sums.map V.int)) :: pt c3 (.tup (s.tops.map V.int)) :: pt c4 (.tup (s.line.map V.int)) :: plainC E.i_Plain x m s :: R)
theorem ok_Plain_state (E : Env K mg) : FnOk P w K mg base CX0 1 E.f_Plain_state E.fd_Plain_state ["self"] (spS (S_pstate E)) := by
  refine Bx.out ?_
  simp (disch := with_unfolding_all
      refine okS E.F_Plain_state sc_Plain_state (fun vs ps Φ h => ?_) (fun cdv A outer s H E0 hr => ?_)
      · obtain ⟨x, m, st, R, rfl, _⟩ := h; rfl
      · refine ⟨_, ((pss_one (ps_ret (pe_tup (pa_cons (pe_fld (pv 0) rfl) (pa_cons (pe_callTy cr_tupOf (by rfl) E.bn_tuple (by decide +kernel) (pa_cons (pe_fld (pv 0) rfl) pa_nil)) (pa_cons (pe_callTy cr_tupOf (by rfl) E.bn_tuple (by decide +kernel) (pa_cons (pe_fld (pv 0) rfl) pa_nil)) (pa_cons (pe_callTy cr_tupOf (by rfl) E.bn_tuple (by decide +kernel) (pa_cons (pe_fld (pv 0) rfl) pa_nil)) (pa_cons (pe_callTy cr_tupOf (by rfl) E.bn_tuple (by decide +kernel) (pa_cons (pe_fld (pv 0) rfl) pa_nil)) pa_nil))))))))), fun vs ps Φ h => ?_⟩
        obtain ⟨x, m, ⟨so, sc, ss, st, sl⟩, R, rfl, e, k⟩ := h
        try dsimp only [cxOf]
        show Ws _ _ _ _ _ [_] _
        refine Ws.ent e (Ws.plainC fun q1 q2 q3 q4 => ?_)
        ktf_call "go"
        exact OutP.mk' (by ktf_call "ent") (k _ _ _ _ _)) only [↓Bx.tr]
def S_ptwin (E : Env K mg) : SP := fun vs ps Φ => ∃ (x : Addr) (m : Nat) (s : Pst) (R : List HP), vs = [.ref x] ∧ Ent ps (plainC E.i_Plain x m s :: R) ∧ m ≤ 1000 ∧ ∀ q, Φ (.ref q) (plainC E.i_Plain q m s :: plainC E.i_Plain x m s :: R)
theorem ok_Plain_twin (E : Env K mg) : FnOk P w K mg base CX0 3 E.f_Plain_twin E.fd_Plain_twin ["self"] (spS (S_ptwin E)) := by
  refine Bx.out ?_
  simp (disch := with_unfolding_all
      refine okS E.F_Plain_twin sc_Plain_twin (fun vs ps Φ h => ?_) (fun cdv A outer s H E0 hr => ?_)
      · obtain ⟨x, m, st, R, rfl, _⟩ := h; rfl
      · refine ⟨_, ((pss_cons (ps_set (i := 1) sc_Plain_twin.nd rfl (by first | exact Or.inl rfl | exact Or.inr rfl) (pe_make E.mk_Plain (ok_Plain_init E) (hr.mono (by decide)) rfl E.g_Plain E.b_Plain_init .nil pass0 (pa_cons (pe_fld (pv 0) rfl) pa_nil)))
     (pss_cons (ps_fld (pv 1) (pe_fld (pv 0) rfl) rfl)
     (pss_cons (ps_fld (pv 1) (pe_callTy cr_listOf (by rfl) E.bn_list (by decide +kernel) (pa_cons (pe_fld (pv 0) rfl) pa_nil)) rfl)
     (pss_cons (ps_fld (pv 1) (pe_callTy cr_listOf (by rfl) E.bn_list (by decide +kernel) (pa_cons (pe_fld (pv 0) rfl) pa_nil)) rfl)
     (pss_cons (ps_fld (pv 1) (pe_callTy cr_listOf (by rfl) E.bn_list (by decide +kernel) (pa_cons (pe_fld (pv 0) rfl) pa_nil)) rfl)
     (pss_cons (ps_fld (pv 1) (pe_callTy cr_listOf (by rfl) E.bn_list (by decide +kernel) (pa_cons (pe_fld (pv 0) rfl) pa_nil)) rfl)
     (pss_one (ps_ret (pv 1)))))))))), fun vs ps Φ h => ?_⟩
        obtain ⟨x, m, ⟨so, sc, ss, st, sl⟩, R, rfl, e, hm, k⟩ := h
        try dsimp only [cxOf]
        show Ws _ _ _ _ _ [_, _] _
        refine Ws.ent e (Ws.plainC fun q1 q2 q3 q4 => ?_)
        ktf_call "go"
        intro q
        refine s_pinit hm ⟨rfl, ?_⟩
        ktf_call "go"
        refine FldS.open (fun H z => open_plainC (by ktf_call "pick") z) fun z => ?_
        obtain ⟨z1, z2, z3, z4⟩ := z
        ktf_call "go"
        exact OutP.mk' (by ktf_call "ent") (k _)) only [↓Bx.tr]
end
section
variable {P : Program} {w : World} {K : PySem.W.Frag} {mg : Str → Option Value} {base : Heap}
def S_sfirst (E : Env K mg) : SP := fun vs ps Φ => ∃ (x lp rp : Addr) (d : V) (m : Nat) (L : List (Addr × List V)) (as : List Addr) (rs : List Rec) (left : List Int), vs = [.ref x, .ref lp] ∧ obj E.i_Search x [("told", .ref rp), ("many", .int m), ("dead", d)] ∈ ps ∧ tups L ∈ ps ∧ pt rp (.lst (as.map V.ref)) ∈ ps ∧ pt lp (.lst (left.map V.int)) ∈ ps ∧ SrOk L as rs m ∧ Mir.Lf rs left ∧ left ≠ [] ∧ left.length ≤ 1000 ∧
  ∀ (fs : List Int) (p : Addr), fs.length ≤ left.length → (∀ q, q ∈ fs ↔ q ∈ left ∧ ∀ r, rs[q.toNat]? = some r → Mir.First rs left r) → Φ (.ref p) (pt p (.lst (fs.map V.int)) :: ps)
theorem z_sfirst {E : Env K mg} {ps : List HP} {Φ : V → List HP → Prop} {x lp rp : Addr} {d : V} {m : Nat} {L : List (Addr × List V)} {as : List Addr} {rs : List Rec} {left : List Int} (m1 : obj E.i_Search x [("told", .ref rp), ("many", .int m), ("dead", d)] ∈ ps) (m2 : tups L ∈ ps) (m3 : pt rp (.lst (as.map V.ref)) ∈ ps) (m4 : pt lp (.lst (left.map V.int)) ∈ ps) (so : SrOk L as rs m) (lf : Mir.Lf rs left) (hne : left ≠ []) (hl : left.length ≤ 1000)
    (k : ∀ (fs : List Int) (p : Addr), fs.length ≤ left.length → (∀ q, q ∈ fs ↔ q ∈ left ∧ ∀ r, rs[q.toNat]? = some r → Mir.First rs left r) → Φ (.ref p) (pt p (.lst (fs.map V.int)) :: ps)) : S_sfirst E [.ref x, .ref lp] ps Φ := ⟨x, lp, rp, d, m, L, as, rs, left, rfl, m1, m2, m3, m4, so, lf, hne, hl, k⟩
theorem ok_Search_first_ones (E : Env K mg) : FnOk P w K mg base CX0 1 E.f_Search_first_ones E.fd_Search_first_ones ["self", "left"] (spS (S_sfirst E)) := by
  refine Bx.out ?_
  simp (disch := with_unfolding_all
      refine okS E.F_Search_first_ones sc_Search_first_ones (fun vs ps Φ h => ?_) (fun cdv A outer s H E0 hr => ?_)
      · obtain ⟨x, lp, rp, d, m, L, as, rs, left, rfl, _⟩ := h; rfl
      · refine ⟨_, ((pss_cons (ps_set (i := 2) sc_Search_first_ones.nd rfl (by first | exact Or.inl rfl | exact Or.inr rfl) (pe_callB (cr_min rfl) (by rfl) E.bn_min (by decide +kernel) (pa_cons (pe_lc (own := [("place", 3)]) (g := gName 3) (te := (tOp (rIxT K) (tOp (rIxL K) (tFld K _ "told") _) _)) (tt := tYes)  (by rfl) sc_Search_first_ones.nd (pi_list (pv 1)) (blkOk_by (own := [("place", 3)]) (N := n_Search_first_ones) (sc := defScope s_Search_first_ones) (by decide +kernel)) (fun _ _ _ _ _ => (pg_name (i := 3) sc_Search_first_ones.nd rfl (by first | exact Or.inl rfl | exact Or.inr rfl))) (fun _ _ _ _ _ => pts_nil) (fun _ _ _ _ _ => (pe_ix ix_tup (pe_ix ix_list (pe_fld (pv 0) rfl) (pv 3) (fun _ _ => rfl)) pe_int (fun _ _ => rfl)))) pa_nil)))
     (pss_one (ps_ret (pe_lc (own := [("place", 3)]) (g := gName 3) (tt := (tTest (tOp _ (tOp (rIxT K) (tOp (rIxL K) (tFld K _ "told") _) _) _)))  (by rfl) sc_Search_first_ones.nd (pi_list (pv 1)) (blkOk_by (own := [("place", 3)]) (N := n_Search_first_ones) (sc := defScope s_Search_first_ones) (by decide +kernel)) (fun _ _ _ _ _ => (pg_name (i := 3) sc_Search_first_ones.nd rfl (by first | exact Or.inl rfl | exact Or.inr rfl))) (fun _ _ _ _ _ => (pts_one (pt_cmpR op_le (pe_ix ix_tup (pe_ix ix_list (pe_fld (pv 0) rfl) (pv 3) (fun _ _ => rfl)) pe_int (fun _ _ => rfl)) (pv 2) (nomark _)))) (fun _ _ _ _ _ => (pv 3))))))), fun vs ps Φ h => ?_⟩
        obtain ⟨x, lp, rp, d, m, L, as, rs, left, rfl, m1, m2, m3, m4, so, lf, hne, hl, k⟩ := h
        try dsimp only [cxOf]
        show Ws _ _ _ _ _ [_, _, _, _] _
        have rl : RdL K ps lp (left.map V.int) := rdl_pt m4
        have rr : RdL K ps rp (as.map V.ref) := rdl_pt m3
        -- the end of a place
        obtain ⟨ef, hef⟩ : ∃ ef : Int → Int, ∀ q ∈ left, ∀ r, rs[q.toNat]? = some r → ef q = r.e := ⟨fun q => ((rs[q.toNat]?).map (·.e)).getD 0, fun q _ r hr => by simp [hr]⟩
        ktf_call "go"
        refine we_lc (wi_L ?_)
        ktf_call "go"
        refine ⟨lp, _, rfl, rl, fun d2 i acc ps' => acc = ((left.take i).map ef).map V.int ∧ Ent ps' (pt d2 (.lst acc) :: ps), fun d2 => ⟨by simp, Ent.rf⟩, ?_, ?_, ?_⟩
        · rintro d2 i acc ps' ⟨rfl, e⟩ _
          exact RdL.ent e (RdL.cons rl)
        · rintro d2 i y ex acc ps' hi ⟨hy, rfl⟩ ⟨rfl, e⟩
          replace hi : i < (left.map V.int).length := hi
          rw [List.length_map] at hi
          rw [List.getElem?_map, List.getElem?_eq_getElem hi] at hy
          have hy := Option.some.inj hy
          subst hy
          have hmem := List.getElem_mem hi
          obtain ⟨j, a, r, hj, hjl, ha, hr, hrm, hin⟩ := so.at lf hmem
          have he := hef _ hmem r hr
          refine Wg.ent e ?_
          dsimp only [List.nil_append]
          ktf_call "go"
          rw [hj]
          refine w2_ixL (RdL.cons rr) (atI_of (by rfl) ha) ?_
          ktf_call "go"
          refine w2_ixT (xs := r.vals) (rdt_tups (L := L) (List.mem_cons_of_mem _ m2) hin.1) rfl ?_
          have hsz : (((left.take i).map ef).map V.int).length < sizeLine := by rw [List.length_map, List.length_map, List.length_take]; exact Nat.lt_of_le_of_lt (m := 1000) (by omega) (by decide)
          refine accG (by ktf_call "rep") hsz ⟨?_, by ktf_call "ent"⟩
          rw [List.take_succ, List.getElem?_eq_getElem hi]
          show _ = List.map V.int (List.map ef (left.take i ++ [left[i]]))
          rw [List.map_append, List.map_append]
          show _ = _ ++ [V.int (ef left[i])]
          rw [he]
        · rintro d2 acc ps' ⟨rfl, e⟩
          have e3 : (srcL K lp (left.map V.int)).n = left.length := by show (left.map V.int).length = _; rw [List.length_map]
          rw [e3, List.take_length] at e
          refine Wa.ent' (ps' := pt d2 (.lst ((left.map ef).map V.int)) :: ps) e ?_
          ktf_call "go"
          refine wc_min (ns := left.map ef) (by ktf_call "rdl") (by rw [List.length_map]; exact List.length_pos_iff.mpr hne) fun mn hm1 hm2 => ?_
          have hfst : ∀ q ∈ left, (∀ r, rs[q.toNat]? = some r → Mir.First rs left r) ↔ ∀ r, rs[q.toNat]? = some r → r.b ≤ mn := fun q hq => by
            constructor
            · intro h r hr
              obtain ⟨q0, hq0, e0⟩ := List.mem_map.mp hm1
              obtain ⟨t0, ht0⟩ := lf.get hq0
              have h1 := h r hr q0 hq0 t0 ht0
              have h2 := hef q0 hq0 t0 ht0
              omega
            · intro h r hr q2 hq2 t2 ht2
              have h1 := h r hr
              have h2 := hm2 (ef q2) (List.mem_map.mpr ⟨q2, hq2, rfl⟩)
              have h3 := hef q2 hq2 t2 ht2
              omega
          ktf_call "go"
          refine we_lc (wi_L ?_)
          ktf_call "go"
          refine ⟨lp, _, rfl, RdL.cons rl, fun d3 i acc ps' => ∃ fs : List Int, acc = fs.map V.int ∧ fs.length ≤ i ∧ (∀ q, q ∈ fs ↔ q ∈ left.take i ∧ ∀ r, rs[q.toNat]? = some r → r.b ≤ mn) ∧ Ent ps' (pt d3 (.lst acc) :: pt d2 (.lst ((left.map ef).map V.int)) :: ps), fun d3 => ⟨[], rfl, Nat.le_refl _, fun q => by simp, Ent.rf⟩, ?_, ?_, ?_⟩
          · rintro d3 i acc ps' ⟨fs, rfl, _, _, e⟩ _
            exact RdL.ent e (RdL.cons (RdL.cons rl))
          · rintro d3 i y ex acc ps' hi ⟨hy, rfl⟩ ⟨fs, rfl, hfl, hfs, e⟩
            replace hi : i < (left.map V.int).length := hi
            rw [List.length_map] at hi
            rw [List.getElem?_map, List.getElem?_eq_getElem hi] at hy
            have hy := Option.some.inj hy
            subst hy
            have hmem := List.getElem_mem hi
            obtain ⟨j, a, r, hj, hjl, ha, hr, hrm, hin⟩ := so.at lf hmem
            have etake : left.take (i + 1) = left.take i ++ [left[i]] := by rw [List.take_succ, List.getElem?_eq_getElem hi]; rfl
            have hsz : (fs.map V.int).length < sizeLine := by rw [List.length_map]; exact Nat.lt_of_le_of_lt (m := 1000) (by omega) (by decide)
            refine Wg.ent e ?_
            dsimp only [List.nil_append]
            ktf_call "go"
            rw [hj]
            refine w2_ixL (RdL.cons (RdL.cons rr)) (atI_of (by rfl) ha) ?_
            ktf_call "go"
            refine w2_ixT (xs := r.vals) (rdt_tups (L := L) (List.mem_cons_of_mem _ (List.mem_cons_of_mem _ m2)) hin.1) rfl ?_
            ktf_call "go"
            refine iteD (fun hle => ?_) (fun hle => ?_)
            · ktf_call "go"
              refine ⟨fs ++ [left[i]], by rw [hj]; simp, by simp; omega, fun q => ?_, by ktf_call "ent"⟩
              rw [etake, List.mem_append, List.mem_append, hfs q, List.mem_singleton]
              constructor
              · rintro (⟨h1, h2⟩ | rfl)
                · exact ⟨.inl h1, h2⟩
                · exact ⟨.inr rfl, fun r' hr' => by rw [hr] at hr'; rw [← Option.some.inj hr']; exact hle⟩
              · rintro ⟨h1 | h1, h2⟩
                · exact .inl ⟨h1, h2⟩
                · exact .inr h1
            · ktf_call "go"
              refine ⟨fs, rfl, by omega, fun q => ?_, by ktf_call "ent"⟩
              rw [etake, List.mem_append, List.mem_singleton, hfs q]
              constructor
              · rintro ⟨h1, h2⟩; exact ⟨.inl h1, h2⟩
              · rintro ⟨h1 | rfl, h2⟩
                · exact ⟨h1, h2⟩
                · exact absurd (h2 r hr) hle
          · rintro d3 acc ps' ⟨fs, rfl, hfl, hfs, e⟩
            have e3 : (srcL K lp (left.map V.int)).n = left.length := by show (left.map V.int).length = _; rw [List.length_map]
            rw [e3] at hfl
            rw [e3, List.take_length] at hfs
            refine OutP.mk' (e.trans ?_) (k fs d3 hfl fun q => ?_)
            · ktf_call "ent"
            · rw [hfs q]
              constructor
              · rintro ⟨h1, h2⟩; exact ⟨h1, (hfst q h1).mpr h2⟩
              · rintro ⟨h1, h2⟩; exact ⟨h1, (hfst q h1).mp h2⟩) only [↓Bx.tr]
end
section
variable {P : Program} {w : World} {K : PySem.W.Frag} {mg : Str → Option Value} {base : Heap}
/-- what stands while a search goes on -/
abbrev srchP (E : Env K mg) (P : Program) (w : World) (x pd lp rp dp : Addr) (L : List (Addr × List V)) (as : List Addr) (m : Nat) (st : Pst) (left : List Int) (xs : List NEnt) (R : List HP) : List HP :=
  obj E.i_Search x [("told", .ref rp), ("many", .int m), ("dead", .ref dp)] :: pt rp (.lst (as.map V.ref)) :: pt dp (dN P w dp xs) :: tups L :: plainC E.i_Plain pd m st :: pt lp (.lst (left.map V.int)) :: R
def S_tried (E : Env K mg) (P : Program) (w : World) (n : Nat) : SP := fun vs ps Φ => ∃ (x pd lp rp dp : Addr) (L : List (Addr × List V)) (as : List Addr) (rs : List Rec) (m : Nat) (st : Pst) (left : List Int) (xs : List NEnt) (R : List HP), vs = [.ref x, .ref pd, .ref lp] ∧ Ent ps (srchP E P w x pd lp rp dp L as m st left xs R) ∧ SrOk L as rs m ∧
  (Mir.Lf rs left ∧ left.length ≤ n ∧ left.length ≤ 10 ∧ st.wf m ∧ st.line.length + left.length ≤ 1000) ∧ (KeysIn L xs ∧ Dead rs xs ∧ xs.length + Mir.cntS left.length ≤ 10000000) ∧
  ∀ (L' : List (Addr × List V)) (xs' : List NEnt), (∀ y ∈ L, y ∈ L') → KeysIn L' xs' → Dead rs xs' → xs'.length ≤ xs.length + Mir.cntS left.length →
    (∀ (p : Addr) (O : List Int), Mir.Fnd rs st left O → Φ (.ref p) (pt p (.lst (O.map V.int)) :: srchP E P w x pd lp rp dp L' as m st left xs' R)) ∧ (¬ Mir.Has rs st left → Φ .non (srchP E P w x pd lp rp dp L' as m st left xs' R))
theorem z_tried {E : Env K mg} {n : Nat} {ps R : List HP} {Φ : V → List HP → Prop} {x pd lp rp dp : Addr} {L : List (Addr × List V)} {as : List Addr} {rs : List Rec} {m : Nat} {st : Pst} {left : List Int} {xs : List NEnt} (e : Ent ps (srchP E P w x pd lp rp dp L as m st left xs R)) (so : SrOk L as rs m)
    (h : Mir.Lf rs left ∧ left.length ≤ n ∧ left.length ≤ 10 ∧ st.wf m ∧ st.line.length + left.length ≤ 1000) (hx : KeysIn L xs ∧ Dead rs xs ∧ xs.length + Mir.cntS left.length ≤ 10000000)
    (k : ∀ (L' : List (Addr × List V)) (xs' : List NEnt), (∀ y ∈ L, y ∈ L') → KeysIn L' xs' → Dead rs xs' → xs'.length ≤ xs.length + Mir.cntS left.length →
      (∀ (p : Addr) (O : List Int), Mir.Fnd rs st left O → Φ (.ref p) (pt p (.lst (O.map V.int)) :: srchP E P w x pd lp rp dp L' as m st left xs' R)) ∧ (¬ Mir.Has rs st left → Φ .non (srchP E P w x pd lp rp dp L' as m st left xs' R))) : S_tried E P w n [.ref x, .ref pd, .ref lp] ps Φ := ⟨x, pd, lp, rp, dp, L, as, rs, m, st, left, xs, R, rfl, e, so, h, hx, k⟩
theorem z_pstate {E : Env K mg} {ps R : List HP} {Φ : V → List HP → Prop} {x : Addr} {m : Nat} {s : Pst} (e : Ent ps (plainC E.i_Plain x m s :: R)) (k : ∀ a c1 c2 c3 c4, Φ (.ref a) (pt a (.tup [.int s.ones, .ref c1, .ref c2, .ref c3, .ref c4]) :: pt c1 (.tup (s.cells.map V.int)) :: pt c2 (.tup (s.sums.map V.int)) :: pt c3 (.tup (s.tops.map V.int)) :: pt c4 (.tup (s.line.map V.int)) :: plainC E.i_Plain x m s :: R)) : S_pstate E [.ref x] ps Φ := ⟨x, m, s, R, rfl, e, k⟩
theorem z_ptwin {E : Env K mg} {ps R : List HP} {Φ : V → List HP → Prop} {x : Addr} {m : Nat} {s : Pst} (e : Ent ps (plainC E.i_Plain x m s :: R)) (hm : m ≤ 1000) (k : ∀ q, Φ (.ref q) (plainC E.i_Plain q m s :: plainC E.i_Plain x m s :: R)) : S_ptwin E [.ref x] ps Φ := ⟨x, m, s, R, rfl, e, hm, k⟩
theorem poolL {xs L : List (Addr × List V)} {R : List HP} : Ent (xs.map (fun q => pt q.1 (.tup q.2)) ++ (tups L :: R)) (tups (L ++ xs) :: R) := fun H s => by
  unfold tups at *
  have s1 := s.perm List.perm_middle
  have s2 := Sat.grp.mp s1
  refine Sat.grp.mpr (s2.perm ?_)
  rw [List.map_append, List.append_assoc]
theorem ok_Search_tried0 (E : Env K mg) : FnOk P w K mg base CX0 5 E.f_Search_tried E.fd_Search_tried ["self", "plain", "left"] (spS (S_tried E P w 0)) := by
  refine Bx.out ?_
  simp (disch := with_unfolding_all
      refine okS E.F_Search_tried sc_Search_tried (fun vs ps Φ h => ?_) (fun cdv A outer s H E0 hr => ?_)
      · obtain ⟨x, pd, lp, rp, dp, L, as, rs, m, st, left, xs, R, rfl, _⟩ := h; rfl
      · refine ⟨_, ((pss_cons (ps_if (pt_cmpR (op_eqD hr.units) (pv 2) (pe_lst pa_nil) (nomark _)) (pss_one (ps_ret (pe_lst pa_nil))) pss_nil)
     (pss_cons (ps_set (i := 3) sc_Search_tried.nd rfl (by first | exact Or.inl rfl | exact Or.inr rfl) (pe_tup (pa_cons (pe_callTy cr_tupOf (by rfl) E.bn_tuple (by decide +kernel) (pa_cons (pv 2) pa_nil)) (pa_cons (pe_meth0 (pv 1) E.i_Plain.cls E.m_Plain_state (ok_Plain_state E) (hr.mono (by decide)) E.b_Plain_state .nil pass0) pa_nil))))
     (pss_cons (ps_if (pt_cmpR (Sp.op_inN (Sp.u65n hr)) (pv 3) (pe_fld (pv 0) rfl) (by rfl)) (pss_one (ps_ret pe_non)) pss_nil)
     (pss_cons ps_never
     (pss_cons (ps_asg pe_bl (pg_sub (pe_fld (pv 0) rfl) (pv 3) (Sp.set_nest (Sp.u65n hr))))
     (pss_one (ps_ret pe_non)))))))), fun vs ps Φ h => ?_⟩
        obtain ⟨x, pd, lp, rp, dp, L, as, rs, m, st, left, xs, R, rfl, e, so, ⟨lf, hn, hn10, wf, hll⟩, ⟨hki, hde, hcl⟩, k⟩ := h
        try dsimp only [cxOf]
        show Ws _ _ _ _ _ [_, _, _, _, _, _, _, _, _] _
        obtain rfl : left = [] := List.eq_nil_of_length_eq_zero (by omega)
        dsimp only [srchP] at e k
        refine Ws.ent e ?_
        ktf_call "go"
        rename_i o1 o2
        have k1 := (k L xs (fun _ h => h) hki hde (by omega)).1 o2 [] Mir.fnd_nil
        change Φ _ (pt o2 (.lst []) :: _) at k1
        exact OutP.mk' (by ktf_call "ent") k1) only [↓Bx.tr]
theorem ok_Search_triedS (E : Env K mg) (n : Nat) (ih : FnOk P w K mg base CX0 (n + 5) E.f_Search_tried E.fd_Search_tried ["self", "plain", "left"] (spS (S_tried E P w n))) : FnOk P w K mg base CX0 (n + 1 + 5) E.f_Search_tried E.fd_Search_tried ["self", "plain", "left"] (spS (S_tried E P w (n + 1))) := by
  refine Bx.out ?_
  simp (disch := with_unfolding_all
      have ok_ih : ∀ _ : Env K mg, FnOk P w K mg base CX0 (n + 5) E.f_Search_tried E.fd_Search_tried ["self", "plain", "left"] (spS (S_tried E P w n)) := fun _ => ih
      refine okS E.F_Search_tried sc_Search_tried (fun vs ps Φ h => ?_) (fun cdv A outer s H E0 hr => ?_)
      · obtain ⟨x, pd, lp, rp, dp, L, as, rs, m, st, left, xs, R, rfl, _⟩ := h; rfl
      · refine ⟨_, ((pss_cons (ps_if (pt_cmpR (op_eqD hr.units) (pv 2) (pe_lst pa_nil) (nomark _)) (pss_one (ps_ret (pe_lst pa_nil))) pss_nil)
     (pss_cons (ps_set (i := 3) sc_Search_tried.nd rfl (by first | exact Or.inl rfl | exact Or.inr rfl) (pe_tup (pa_cons (pe_callTy cr_tupOf (by rfl) E.bn_tuple (by decide +kernel) (pa_cons (pv 2) pa_nil)) (pa_cons (pe_meth0 (pv 1) E.i_Plain.cls E.m_Plain_state (ok_Plain_state E) (hr.mono (by omega)) E.b_Plain_state .nil pass0) pa_nil))))
     (pss_cons (ps_if (pt_cmpR (Sp.op_inN (Sp.u65n hr)) (pv 3) (pe_fld (pv 0) rfl) (by rfl)) (pss_one (ps_ret pe_non)) pss_nil)
     (pss_cons (ps_for PassesOwn.never rfl (pi_list (pe_meth (pv 0) E.i_Search.cls E.m_Search_first_ones (ok_Search_first_ones E) (hr.mono (by omega)) E.b_Search_first_ones .nil pass0 (pa_cons (pv 2) pa_nil))) (pg_name (i := 4) sc_Search_tried.nd rfl (by first | exact Or.inl rfl | exact Or.inr rfl)) (pss_cons (ps_set (i := 5) sc_Search_tried.nd rfl (by first | exact Or.inl rfl | exact Or.inr rfl) (pe_ix ix_list (pe_fld (pv 0) rfl) (pv 4) (fun _ _ => rfl)))
     (pss_cons (ps_set (i := 6) sc_Search_tried.nd rfl (by first | exact Or.inl rfl | exact Or.inr rfl) (pe_meth0 (pv 1) E.i_Plain.cls E.m_Plain_twin (ok_Plain_twin E) (hr.mono (by omega)) E.b_Plain_twin .nil pass0))
     (pss_one (ps_if (pt_cmpR (op_eqD hr.units) (pe_meth (pv 6) E.i_Plain.cls E.m_Plain_done (ok_Plain_done E) (hr.mono (by omega)) E.b_Plain_done .nil pass0 (pa_cons (pe_ix ix_tup (pv 5) pe_int (fun _ _ => rfl)) (pa_cons (pe_ix ix_tup (pv 5) pe_int (fun _ _ => rfl)) pa_nil))) (pe_ix ix_tup (pv 5) pe_int (fun _ _ => rfl)) (nomark _)) (pss_cons (ps_set (i := 7) sc_Search_tried.nd rfl (by first | exact Or.inl rfl | exact Or.inr rfl) (pe_meth (pv 0) E.i_Search.cls E.m_Search_tried (ok_ih E) (hr.mono (by omega)) E.b_Search_tried .nil pass0 (pa_cons (pv 6) (pa_cons (pe_lc (own := [("other", 8)]) (g := gName 8)  (by rfl) sc_Search_tried.nd (pi_list (pv 2)) (blkOk_by (own := [("other", 8)]) (N := n_Search_tried) (sc := defScope s_Search_tried) (by decide +kernel)) (fun _ _ _ _ _ => (pg_name (i := 8) sc_Search_tried.nd rfl (by first | exact Or.inl rfl | exact Or.inr rfl))) (fun _ _ _ _ _ => (pts_one (pt_cmpR op_ne (pv 8) (pv 4) (nomark _)))) (fun _ _ _ _ _ => (pv 8))) pa_nil))))
     (pss_one (ps_if (pt_cmp (pc_notN (pv 7))) (pss_one (ps_ret (pe_op op_cat (pe_lst (pa_cons (pv 4) pa_nil)) (pv 7)))) pss_nil))) pss_nil)))))
     (pss_cons (ps_asg pe_bl (pg_sub (pe_fld (pv 0) rfl) (pv 3) (Sp.set_nest (Sp.u65n hr))))
     (pss_one (ps_ret pe_non)))))))), fun vs ps Φ h => ?_⟩
        obtain ⟨x, pd, lp, rp, dp, L, as, rs, m, st, left, xs, R, rfl, e, so, ⟨lf, hn, hn10, wf, hll⟩, ⟨hki, hde, hcl⟩, k⟩ := h
        try dsimp only [cxOf]
        show Ws _ _ _ _ _ [_, _, _, _, _, _, _, _, _] _
        dsimp only [srchP] at e k
        refine Ws.ent e ?_
        ktf_call "go"
        refine iteD (fun hnil => ?_) (fun hne => ?_)
        · subst hnil
          ktf_call "go"
          rename_i o1 o2
          have k1 := (k L xs (fun _ h => h) hki hde (by omega)).1 o2 [] Mir.fnd_nil
          change Φ _ (pt o2 (.lst []) :: _) at k1
          exact OutP.mk' (by ktf_call "ent") k1
        ktf_call "go"
        rename_i l0 a1
        refine z_pstate (x := pd) (m := m) (s := st) (by ktf_call "ent") fun a2 c1 c2 c3 c4 => ?_
        ktf_call "go"
        rename_i ka
        obtain ⟨L1, hL1e⟩ : ∃ L1, L1 = L ++ [(ka, [V.ref a1, .ref a2]), (a1, left.map V.int), (a2, [V.int st.ones, .ref c1, .ref c2, .ref c3, .ref c4]), (c1, st.cells.map V.int), (c2, st.sums.map V.int), (c3, st.tops.map V.int), (c4, st.line.map V.int)] := ⟨_, rfl⟩
        have hL1 : ∀ y ∈ L, y ∈ L1 := fun y hy => by rw [hL1e]; exact List.mem_append_left _ hy
        have hkey : KeyIn L1 (keyN left st) ka := by
          rw [hL1e]
          exact ⟨left, st, a1, a2, c1, c2, c3, c4, rfl, List.mem_append_right _ (by simp), List.mem_append_right _ (by simp), List.mem_append_right _ (by simp), List.mem_append_right _ (by simp), List.mem_append_right _ (by simp), List.mem_append_right _ (by simp), List.mem_append_right _ (by simp)⟩
        have hent : ∀ R', Ent (pt ka (.tup [V.ref a1, .ref a2]) :: pt a1 (.tup (left.map V.int)) :: pt a2 (.tup [V.int st.ones, .ref c1, .ref c2, .ref c3, .ref c4]) :: pt c1 (.tup (st.cells.map V.int)) :: pt c2 (.tup (st.sums.map V.int)) :: pt c3 (.tup (st.tops.map V.int)) :: pt c4 (.tup (st.line.map V.int)) :: tups L :: R') (tups L1 :: R') := fun R' => by
          rw [hL1e]
          exact poolL (xs := [(ka, [V.ref a1, .ref a2]), (a1, left.map V.int), (a2, [V.int st.ones, .ref c1, .ref c2, .ref c3, .ref c4]), (c1, st.cells.map V.int), (c2, st.sums.map V.int), (c3, st.tops.map V.int), (c4, st.line.map V.int)])
        clear hL1e
        refine W2.ent (ps' := obj E.i_Search x [("told", .ref rp), ("many", .int m), ("dead", .ref dp)] :: pt rp (.lst (as.map V.ref)) :: pt dp (dN P w dp xs) :: tups L1 :: plainC E.i_Plain pd m st :: pt lp (.lst (left.map V.int)) :: R) ?_ ?_
        · refine Ent.trans (?y1 : Ent _ (pt ka (.tup [V.ref a1, .ref a2]) :: pt a1 (.tup (left.map V.int)) :: pt a2 (.tup [V.int st.ones, .ref c1, .ref c2, .ref c3, .ref c4]) :: pt c1 (.tup (st.cells.map V.int)) :: pt c2 (.tup (st.sums.map V.int)) :: pt c3 (.tup (st.tops.map V.int)) :: pt c4 (.tup (st.line.map V.int)) :: tups L :: obj E.i_Search x [("told", .ref rp), ("many", .int m), ("dead", .ref dp)] :: pt rp (.lst (as.map V.ref)) :: pt dp (dN P w dp xs) :: plainC E.i_Plain pd m st :: pt lp (.lst (left.map V.int)) :: R)) ((hent _).trans ?y2)
          case y1 => ktf_call "ent"
          case y2 => ktf_call "ent"
        refine w2_inN (L := L1) (k := keyN left st) (xs := xs) (by ktf_call "mem") (by ktf_call "mem") (hki.mono hL1) hkey ?_
        ktf_call "go"
        refine iteB (fun hin => ?_) (fun hnin => ?_)
        · ktf_call "go"
          exact OutP.mk' (by ktf_call "ent") ((k L1 xs hL1 (hki.mono hL1) hde (by omega)).2 (hde.at hin))
        ktf_call "go"
        refine ws_for (wi_L ?_)
        ktf_call "go"
        refine z_sfirst (x := x) (lp := lp) (rp := rp) (m := m) (L := L1) (as := as) (rs := rs) (left := left) (by ktf_call "mem") (by ktf_call "mem") (by ktf_call "mem") (by ktf_call "mem") (so.mono hL1) lf hne (by omega) fun fs fp hfl hfs => ?_
        have hlen0 : 0 < left.length := List.length_pos_iff.mpr hne
        obtain ⟨c, hc⟩ : ∃ c, c = Mir.cntS (left.length - 1) := ⟨_, rfl⟩
        have hcn : Mir.cntS left.length = 1 + left.length * c := by
          obtain ⟨n', hn'⟩ : ∃ n', left.length = n' + 1 := ⟨left.length - 1, by omega⟩
          rw [hc, hn']; rfl
        rw [hcn] at hcl k
        refine ⟨fp, _, rfl, by ktf_call "rdl", fun i σ ps' => ∃ v4 v5 v6 v7 L' xs', σ = [some (.ref x), some (.ref pd), some (.ref lp), some (.ref ka), v4, v5, v6, v7, none] ∧ ((∀ y ∈ L1, y ∈ L') ∧ KeysIn L' xs' ∧ Dead rs xs' ∧ xs'.length ≤ xs.length + i * c ∧ ∀ j, j < i → ∀ q, fs[j]? = some q → ∀ r, rs[q.toNat]? = some r → st.ans r.deed = r.an → ¬ Mir.Has rs (st.done r.hand r.deed) (Mir.less left q)) ∧
            Ent ps' (pt fp (.lst (fs.map V.int)) :: obj E.i_Search x [("told", .ref rp), ("many", .int m), ("dead", .ref dp)] :: pt rp (.lst (as.map V.ref)) :: pt dp (dN P w dp xs') :: tups L' :: plainC E.i_Plain pd m st :: pt lp (.lst (left.map V.int)) :: R), ⟨none, none, none, none, L1, xs, rfl, ⟨fun _ h => h, hki.mono hL1, hde, by omega, fun j hj => absurd hj (Nat.not_lt_zero _)⟩, by ktf_call "ent"⟩, ?_, ?_, ?_⟩
        · rintro i σ ps' ⟨v4, v5, v6, v7, L', xs', rfl, _, e⟩ _
          exact RdL.ent e (by ktf_call "rdl")
        · rintro i y ex σ ps' hi ⟨hy, rfl⟩ ⟨v4, v5, v6, v7, L', xs', rfl, ⟨hL', hki', hde', hxl, hno⟩, e⟩
          replace hi : i < (fs.map V.int).length := hi
          rw [List.length_map] at hi
          rw [List.getElem?_map, List.getElem?_eq_getElem hi] at hy
          have hy := Option.some.inj hy
          subst hy
          obtain ⟨q, hq⟩ : ∃ q, q = fs[i] := ⟨_, rfl⟩
          have hfi : fs[i]? = some q := by rw [hq]; exact List.getElem?_eq_getElem hi
          have hqf : q ∈ fs := by rw [hq]; exact List.getElem_mem hi
          obtain ⟨hqm, hqfirst⟩ := (hfs q).mp hqf
          have so' := so.mono fun y hy => hL' y (hL1 y hy)
          obtain ⟨j, a, r, hj, hjl, ha, hr, hrm, hin⟩ := so'.at lf hqm
          have hfirst := hqfirst r hr
          have hhand := so.hand r hrm
          have hm0 := so.m0
          have hstep : (i + 1) * c = i * c + c := Nat.succ_mul i c
          have hmul : (i + 1) * c ≤ left.length * c := Nat.mul_le_mul_right c (by omega)
          rw [← hq]
          clear hq
          refine Wg.ent e ?_
          dsimp only [List.nil_append]
          ktf_call "go"
          refine w2_ixL (by ktf_call "rdl") (atI_of hj ha) ?_
          ktf_call "go"
          refine z_ptwin (x := pd) (m := m) (s := st) (by ktf_call "ent") hm0.2 fun mp => ?_
          ktf_call "go"
          refine w2_ixT (xs := r.vals) (rdt_tups (L := L') (by ktf_call "mem") hin.1) rfl ?_
          ktf_call "go"
          refine w2_ixT (xs := r.vals) (rdt_tups (L := L') (by ktf_call "mem") hin.1) rfl ?_
          ktf_call "go"
          refine s_pdone (m := m) (s := st) (d := r.deed) (by ktf_call "pick") (rdt_tups (L := L') (by ktf_call "mem") hin.2.1) wf hhand (by omega) fun av => ?_
          ktf_call "go"
          refine w2_ixT (xs := r.vals) (rdt_tups (L := L') (by ktf_call "mem") hin.1) rfl ?_
          refine w2_eqA (rdd_ansC (by ktf_call "mem")) (rdd_ansR (L := L') (by ktf_call "mem") hin.2.2) ?_
          ktf_call "go"
          refine iteD (fun hans => ?_) (fun hans => ?_)
          · ktf_call "go"
            refine we_lc (wi_L ?_)
            ktf_call "go"
            refine ⟨lp, _, rfl, by ktf_call "rdl", fun d i2 acc ps' => acc = (Mir.less (left.take i2) q).map V.int ∧ Ent ps' (pt d (.lst acc) :: plainC E.i_Plain mp m (st.done r.hand r.deed) :: plainC E.i_Plain pd m st :: pt fp (.lst (fs.map V.int)) :: obj E.i_Search x [("told", .ref rp), ("many", .int m), ("dead", .ref dp)] :: pt rp (.lst (as.map V.ref)) :: pt dp (dN P w dp xs') :: tups L' :: pt lp (.lst (left.map V.int)) :: R), fun d => ⟨by simp [Mir.less], by ktf_call "ent"⟩, ?_, ?_, ?_⟩
            · rintro d i2 acc ps' ⟨rfl, e⟩ _
              exact RdL.ent e (by ktf_call "rdl")
            · rintro d i2 y ex acc ps' hi2 ⟨hy, rfl⟩ ⟨rfl, e⟩
              replace hi2 : i2 < (left.map V.int).length := hi2
              rw [List.length_map] at hi2
              rw [List.getElem?_map, List.getElem?_eq_getElem hi2] at hy
              have hy := Option.some.inj hy
              subst hy
              have etake : left.take (i2 + 1) = left.take i2 ++ [left[i2]] := by rw [List.take_succ, List.getElem?_eq_getElem hi2]; rfl
              have hsz : ((Mir.less (left.take i2) q).map V.int).length < sizeLine := by
                rw [List.length_map]
                have h1 : (Mir.less (left.take i2) q).length ≤ (left.take i2).length := List.length_filter_le _ _
                rw [List.length_take] at h1
                exact Nat.lt_of_le_of_lt (m := 1000) (by omega) (by decide)
              generalize left[i2] = z at etake
              refine Wg.ent e ?_
              dsimp only [List.nil_append]
              ktf_call "go"
              refine iteND (fun hz => ?_) (fun hz => ?_)
              · ktf_call "go"
                refine ⟨?_, by ktf_call "ent"⟩
                rw [etake]
                unfold Mir.less
                rw [List.filter_append, List.filter_cons, if_pos (by simp [hz]), List.map_append]
                rfl
              · ktf_call "go"
                refine ⟨?_, by ktf_call "ent"⟩
                rw [etake]
                unfold Mir.less
                rw [List.filter_append, List.filter_cons, if_neg (by simp [hz])]
                simp
            rintro d acc ps' ⟨rfl, e⟩
            have e3 : (srcL K lp (left.map V.int)).n = left.length := by show (left.map V.int).length = _; rw [List.length_map]
            rw [e3, List.take_length] at e
            refine Wa.ent' e ?_
            ktf_call "go"
            have hll2 := Mir.less_len lf.1 hqm
            have hlc : Mir.cntS (Mir.less left q).length = c := by rw [hc, show (Mir.less left q).length = left.length - 1 by omega]
            have hdl := Pst.done_line (s := st) (h := r.hand) (d := r.deed)
            refine z_tried (x := x) (pd := mp) (lp := d) (rp := rp) (dp := dp) (L := L') (as := as) (rs := rs) (m := m) (st := st.done r.hand r.deed) (left := Mir.less left q) (xs := xs') (by ktf_call "ent") so' ⟨lf.less q, by omega, by omega, Pst.done_wf wf, by omega⟩ ⟨hki', hde', by rw [hlc]; omega⟩ fun L2 xs2 hL2 hk2 hd2 hx2 => ⟨fun p O hf => ?_, fun hn2 => ?_⟩
            · dsimp only [srchP]
              ktf_call "go"
              have hOl : O.length ≤ 1000 := by rw [hf.1.length_eq]; omega
              refine w2_catsI (by ktf_call "mem") (by ktf_call "mem") (by omega) fun o => ?_
              exact OutP.mk' (by ktf_call "ent") ((k L2 xs2 (fun y hy => hL2 y (hL' y (hL1 y hy))) hk2 hd2 (by rw [hlc] at hx2; omega)).1 o (q :: O) (Mir.fnd_cons lf hqm hr hfirst hans hf))
            · dsimp only [srchP]
              ktf_call "go"
              refine ⟨_, _, _, _, L2, xs2, rfl, ⟨fun y hy => hL2 y (hL' y hy), hk2, hd2, by rw [hlc] at hx2; omega, fun j hj q' hq' r' hr' ha' => ?_⟩, by ktf_call "ent"⟩
              by_cases z : j = i
              · subst z
                rw [hfi] at hq'
                obtain rfl := Option.some.inj hq'
                rw [hr] at hr'
                obtain rfl := Option.some.inj hr'
                exact hn2
              · exact hno j (by omega) q' hq' r' hr' ha'
          · ktf_call "go"
            refine ⟨_, _, _, _, L', xs', rfl, ⟨hL', hki', hde', by omega, fun j hj q' hq' r' hr' ha' => ?_⟩, by ktf_call "ent"⟩
            by_cases z : j = i
            · subst z
              rw [hfi] at hq'
              obtain rfl := Option.some.inj hq'
              rw [hr] at hr'
              obtain rfl := Option.some.inj hr'
              exact absurd ha' hans
            · exact hno j (by omega) q' hq' r' hr' ha'
        · rintro σ ps' ⟨v4, v5, v6, v7, L', xs', rfl, ⟨hL', hki', hde', hxl, hno⟩, e⟩
          have e3 : (srcL K fp (fs.map V.int)).n = fs.length := by show (fs.map V.int).length = _; rw [List.length_map]
          rw [e3] at hxl hno
          have hmul : fs.length * c ≤ left.length * c := Nat.mul_le_mul_right c hfl
          have hn0 : ¬ Mir.Has rs st left := by
            intro h
            obtain ⟨p, hp, r, hr, hf, ha, hh⟩ := Mir.has_first so.be lf hne h
            have hpf : p ∈ fs := (hfs p).mpr ⟨hp, fun r' hr' => by rw [hr] at hr'; rw [← Option.some.inj hr']; exact hf⟩
            obtain ⟨j, hj, hjp⟩ := List.getElem_of_mem hpf
            exact hno j hj p (by rw [← hjp]; exact List.getElem?_eq_getElem hj) r hr ha hh
          refine Ws.ent e ?_
          ktf_call "go"
          refine wst_N (L := L') (k := keyN left st) (xs := xs') (by ktf_call "mem") (by ktf_call "rep") hki' (hkey.mono hL') (Nat.le_trans (m := 10000000) (by omega) (by decide)) ?_
          ktf_call "go"
          exact OutP.mk' (by ktf_call "ent") ((k L' _ (fun y hy => hL' y (hL1 y hy)) (keysIn_put hki' (hkey.mono hL')) (hde'.put hn0) (Nat.le_trans stored_len (by omega))).2 hn0)) only [↓Bx.tr]
theorem ok_Search_tried (E : Env K mg) (n : Nat) : FnOk P w K mg base CX0 (n + 5) E.f_Search_tried E.fd_Search_tried ["self", "plain", "left"] (spS (S_tried E P w n)) := by
  induction n with
  | zero => exact ok_Search_tried0 E
  | succ n ih => exact ok_Search_triedS E n ih
theorem ok_Search_tried10 (E : Env K mg) : FnOk P w K mg base CX0 15 E.f_Search_tried E.fd_Search_tried ["self", "plain", "left"] (spS (S_tried E P w 10)) := ok_Search_tried E 10
def S_found (K : PySem.W.Frag) : SP := fun vs ps Φ => ∃ (rp : Addr) (L : List (Addr × List V)) (as : List Addr) (rs : List Rec) (m : Nat) (R : List HP), vs = [.ref rp, .int m] ∧ Ent ps (pt rp (.lst (as.map V.ref)) :: tups L :: R) ∧ SrOk L as rs m ∧ rs.length ≤ 10 ∧
  ∀ L' : List (Addr × List V), (∀ y ∈ L, y ∈ L') → (∀ (p : Addr) (O : List Int), Mir.Fnd rs (Pst.new m) (upto rs.length) O → Φ (.ref p) (pt p (.lst (O.map V.int)) :: pt rp (.lst (as.map V.ref)) :: tups L' :: R)) ∧ (¬ Mir.Has rs (Pst.new m) (upto rs.length) → Φ .non (pt rp (.lst (as.map V.ref)) :: tups L' :: R))
theorem z_found {ps R : List HP} {Φ : V → List HP → Prop} {rp : Addr} {L : List (Addr × List V)} {as : List Addr} {rs : List Rec} {m : Nat} (e : Ent ps (pt rp (.lst (as.map V.ref)) :: tups L :: R)) (so : SrOk L as rs m) (hl : rs.length ≤ 10)
    (k : ∀ L' : List (Addr × List V), (∀ y ∈ L, y ∈ L') → (∀ (p : Addr) (O : List Int), Mir.Fnd rs (Pst.new m) (upto rs.length) O → Φ (.ref p) (pt p (.lst (O.map V.int)) :: pt rp (.lst (as.map V.ref)) :: tups L' :: R)) ∧ (¬ Mir.Has rs (Pst.new m) (upto rs.length) → Φ .non (pt rp (.lst (as.map V.ref)) :: tups L' :: R))) : S_found K [.ref rp, .int m] ps Φ := ⟨rp, L, as, rs, m, R, rfl, e, so, hl, k⟩
theorem ok_found_order (E : Env K mg) : FnOk P w K mg base CX0 16 E.f_found_order E.fd_found_order ["records", "many"] (spS (S_found K)) := by
  refine Bx.out ?_
  simp (disch := with_unfolding_all
      refine okS E.F_found_order sc_found_order (fun vs ps Φ h => ?_) (fun cdv A outer s H E0 hr => ?_)
      · obtain ⟨rp, L, as, rs, m, R, rfl, _⟩ := h; rfl
      · refine ⟨_, ((pss_cons (ps_if (pt_cmpR op_gt (pe_callB cr_len (by rfl) E.bn_len (by decide +kernel) (pa_cons (pv 0) pa_nil)) (pe_glob (v := .int 10) (by rfl) E.g_MOST_RECORDS ⟨_, rfl⟩) (nomark _)) (pss_one ps_never) pss_nil)
     (pss_one (ps_ret (pe_meth (pe_make E.mk_Search (ok_Search_init E) (hr.mono (by decide)) rfl E.g_Search E.b_Search_init .nil pass0 (pa_cons (pv 0) (pa_cons (pv 1) pa_nil))) E.i_Search.cls E.m_Search_tried (ok_Search_tried10 E) (hr.mono (by decide)) E.b_Search_tried .nil pass0 (pa_cons (pe_make E.mk_Plain (ok_Plain_init E) (hr.mono (by decide)) rfl E.g_Plain E.b_Plain_init .nil pass0 (pa_cons (pv 1) pa_nil)) (pa_cons (pe_listRg rfl (by rfl) E.bn_list (prg_1 (by rfl) E.bn_range (pe_callB cr_len (by rfl) E.bn_len (by decide +kernel) (pa_cons (pv 0) pa_nil)))) pa_nil))))))), fun vs ps Φ h => ?_⟩
        obtain ⟨rp, L, as, rs, m, R, rfl, e, so, hl, k⟩ := h
        try dsimp only [cxOf]
        show Ws _ _ _ _ _ [_, _] _
        have hal := so.recs.1
        have hm0 := so.m0
        refine Ws.ent e ?_
        ktf_call "go"
        refine iteD (fun z => absurd z (by rw [List.length_map]; omega)) (fun _ => ?_)
        ktf_call "go"
        intro sx
        refine ⟨sx, rp, m, _, rfl, rfl, fun dp => ⟨rfl, ?_⟩⟩
        ktf_call "go"
        intro pd
        refine s_pinit hm0.2 ⟨rfl, ?_⟩
        ktf_call "go"
        rename_i lp
        rw [List.length_map, hal]
        refine z_tried (x := sx) (pd := pd) (lp := lp) (rp := rp) (dp := dp) (L := L) (as := as) (rs := rs) (m := m) (st := Pst.new m) (left := upto rs.length) (xs := []) (R := R) (by ktf_call "ent") so ⟨Mir.lf_upto rs, by rw [upto_len]; exact hl, by rw [upto_len]; exact hl, Pst.new_wf m, by rw [upto_len]; show 0 + _ ≤ _; omega⟩ ⟨fun x h => (nomatch h), fun x h => (nomatch h), ?_⟩ fun L' xs' hL hk hd hx => ⟨fun p O hf => ?_, fun hn => ?_⟩
        · rw [upto_len]
          have h1 := Mir.cntS_mono hl
          have h2 : Mir.cntS 10 ≤ 10000000 := by decide
          show 0 + _ ≤ _
          omega
        · exact OutP.mk' (by ktf_call "ent") ((k L' hL).1 p O hf)
        · exact OutP.mk' (by ktf_call "ent") ((k L' hL).2 hn)) only [↓Bx.tr]
end
/-! ### records made up -/
section
variable {P : Program} {w : World} {K : PySem.W.Frag} {mg : Str → Option Value} {base : Heap}
def S_lhist (K : PySem.W.Frag) : SP := fun vs ps Φ => ∃ (d a wl : Addr) (ns : List Int) (ws : List Wd) (m : Nat) (most : Int) (R : List HP), vs = [.ref d, .int m, .ref wl, .int most] ∧ Pick (dice d a) ps R ∧ RdL K R a (ns.map V.int) ∧ RdL K R wl (ws.map fun x => V.str x.str) ∧ ns.length ≤ 1000 ∧ (0 < ws.length ∧ ws.length ≤ 1000) ∧ (0 < m ∧ m ≤ 100) ∧ (0 ≤ most ∧ most ≤ 100) ∧
  ∀ (p : Addr) (L : List (Addr × List V)) (as : List Addr) (rs : List Rec) (s : Pst) (l : Int), RecsIn L as rs → Hist m rs s l → (∀ r, r ∈ rs → (0 ≤ r.hand ∧ r.hand < m) ∧ r.b ≤ r.e ∧ 0 ≤ r.e) → (rs.length : Int) ≤ most → Φ (.ref p) (pt p (.lst (as.map V.ref)) :: tups L :: dice d a :: R)
theorem z_lhist {ps R : List HP} {Φ : V → List HP → Prop} {d a wl : Addr} {ns : List Int} {ws : List Wd} {m : Nat} {most : Int} (pk : Pick (dice d a) ps R) (rd : RdL K R a (ns.map V.int)) (rw : RdL K R wl (ws.map fun x => V.str x.str)) (hl : ns.length ≤ 1000) (hw : 0 < ws.length ∧ ws.length ≤ 1000) (hm : 0 < m ∧ m ≤ 100) (hmost : 0 ≤ most ∧ most ≤ 100)
    (k : ∀ (p : Addr) (L : List (Addr × List V)) (as : List Addr) (rs : List Rec) (s : Pst) (l : Int), RecsIn L as rs → Hist m rs s l → (∀ r, r ∈ rs → (0 ≤ r.hand ∧ r.hand < m) ∧ r.b ≤ r.e ∧ 0 ≤ r.e) → (rs.length : Int) ≤ most → Φ (.ref p) (pt p (.lst (as.map V.ref)) :: tups L :: dice d a :: R)) : S_lhist K [.ref d, .int m, .ref wl, .int most] ps Φ := ⟨d, a, wl, ns, ws, m, most, R, rfl, pk, rd, rw, hl, hw, hm, hmost, k⟩
theorem ok__law_history (E : Env K mg) : FnOk P w K mg base CX0 4 E.f__law_history E.fd__law_history ["_law_d", "_law_many", "_law_words", "_law_most"] (spS (S_lhist K)) := by
  refine Bx.out ?_
  simp (disch := with_unfolding_all
      refine okS E.F__law_history sc__law_history (fun vs ps Φ h => ?_) (fun cdv A outer s H E0 hr => ?_)
      · obtain ⟨d, a, wl, ns, ws, m, most, R, rfl, _⟩ := h; rfl
      · refine ⟨_, ((pss_cons (ps_set (i := 4) sc__law_history.nd rfl (by first | exact Or.inl rfl | exact Or.inr rfl) (pe_call (ok__law_plain E) (hr.mono (by decide)) rfl E.g__law_plain E.k__law_plain E.b__law_plain .nil pass0 (pa_cons (pv 1) pa_nil)))
     (pss_cons (ps_set (i := 5) sc__law_history.nd rfl (by first | exact Or.inl rfl | exact Or.inr rfl) (pe_lst pa_nil))
     (pss_cons (ps_set (i := 6) sc__law_history.nd rfl (by first | exact Or.inl rfl | exact Or.inr rfl) (pe_ix ix_list (pe_lst (pa_cons pe_int (pa_cons pe_int pa_nil))) (pe_callTy cr_int1 (by rfl) E.bn_int (by decide +kernel) (pa_cons (pe_cmpR op_eq (pe_call (ok__law_off E) (hr.mono (by decide)) rfl E.g__law_off E.k__law_off E.b__law_off .nil pass0 (pa_cons (pv 0) (pa_cons pe_int pa_nil))) pe_int (nomark _)) pa_nil)) (fun _ _ => rfl)))
     (pss_cons (ps_for PassesOwn.never rfl (pi_range1 (by rfl) E.bn_range (pa_cons (pe_call (ok__law_off E) (hr.mono (by decide)) rfl E.g__law_off E.k__law_off E.b__law_off .nil pass0 (pa_cons (pv 0) (pa_cons (pe_op op_add (pv 3) pe_int) pa_nil))) pa_nil)) (pg_name (i := 7) sc__law_history.nd rfl (by first | exact Or.inl rfl | exact Or.inr rfl)) (pss_cons (ps_set (i := 8) sc__law_history.nd rfl (by first | exact Or.inl rfl | exact Or.inr rfl) (pe_call (ok__law_deed E) (hr.mono (by decide)) rfl E.g__law_deed E.k__law_deed E.b__law_deed .nil pass0 (pa_cons (pv 0) (pa_cons (pe_ix ix_list (pv 2) (pe_call (ok__law_off E) (hr.mono (by decide)) rfl E.g__law_off E.k__law_off E.b__law_off .nil pass0 (pa_cons (pv 0) (pa_cons (pe_callB cr_len (by rfl) E.bn_len (by decide +kernel) (pa_cons (pv 2) pa_nil)) pa_nil))) (fun _ _ => rfl)) pa_nil))))
     (pss_cons (ps_set (i := 9) sc__law_history.nd rfl (by first | exact Or.inl rfl | exact Or.inr rfl) (pe_op op_mul (pe_call (ok__law_off E) (hr.mono (by decide)) rfl E.g__law_off E.k__law_off E.b__law_off .nil pass0 (pa_cons (pv 0) (pa_cons (pv 1) pa_nil))) (pe_callTy cr_int1 (by rfl) E.bn_int (by decide +kernel) (pa_cons (pe_cmpR op_ne (pe_ix ix_tup (pv 8) pe_int (fun _ _ => rfl)) pe_str (nomark _)) pa_nil))))
     (pss_cons (ps_set (i := 10) sc__law_history.nd rfl (by first | exact Or.inl rfl | exact Or.inr rfl) (pe_op op_add (pe_op op_mul (pv 6) (pv 7)) pe_int))
     (pss_cons (ps_set (i := 11) sc__law_history.nd rfl (by first | exact Or.inl rfl | exact Or.inr rfl) (pe_callB (cr_max2 rfl) (by rfl) E.bn_max (by decide +kernel) (pa_cons pe_int (pa_cons (pe_op op_sub (pv 10) (pe_call (ok__law_off E) (hr.mono (by decide)) rfl E.g__law_off E.k__law_off E.b__law_off .nil pass0 (pa_cons (pv 0) (pa_cons (pe_op op_add (pe_op op_mul pe_int (pv 6)) pe_int) pa_nil)))) pa_nil))))
     (pss_one (ps_expr (pe_bm PySem.F.plainAttrs_list PySem.F.slot_list_append PySem.F.type_list_append mt_append (pv 5) (pa_cons (pe_tup (pa_cons (pv 9) (pa_cons (pv 8) (pa_cons (pv 11) (pa_cons (pe_op op_add (pv 10) (pe_call (ok__law_off E) (hr.mono (by decide)) rfl E.g__law_off E.k__law_off E.b__law_off .nil pass0 (pa_cons (pv 0) (pa_cons (pe_op op_add (pe_op op_mul pe_int (pv 6)) pe_int) pa_nil)))) (pa_cons (pe_call (ok__law_at_once E) (hr.mono (by decide)) rfl E.g__law_at_once E.k__law_at_once E.b__law_at_once .nil pass0 (pa_cons (pv 4) (pa_cons (pv 9) (pa_cons (pv 8) pa_nil)))) pa_nil)))))) pa_nil)))))))))
     (pss_one (ps_ret (pv 5)))))))), fun vs ps Φ h => ?_⟩
        obtain ⟨d, a, wl, ns, ws, m, most, R, rfl, pk, rd, rdw, hl, hw, hm, hmost, k⟩ := h
        try dsimp only [cxOf]
        show Ws _ _ _ _ _ [_, _, _, _, _, _, _, _, _, _, _, _] _
        refine Ws.ent (Ent.perm pk.perm) ?_
        ktf_call "go"
        refine s_lplain (by omega) fun pd => ?_
        ktf_call "go"
        rename_i fl apl z hz
        obtain ⟨c, hc, hc2⟩ : ∃ c : Int, (if decide ((z : Int) = 0) = true then (1 : Int) else 0) = c ∧ (c = 0 ∨ c = 1) := ⟨_, rfl, by split <;> simp⟩
        rw [hc]
        refine w2_ixI (ns := [10, 1]) (rdl_pt (List.mem_cons_of_mem _ List.mem_cons_self)) ⟨by omega, by show c < 2; omega⟩ ?_
        obtain ⟨apt, hapt, hap⟩ : ∃ apt : Int, ([10, 1] : List Int).getD (Int.toNat c) 0 = apt ∧ (1 ≤ apt ∧ apt ≤ 10) := by
          refine ⟨_, rfl, ?_⟩
          rcases hc2 with rfl | rfl
          · exact ⟨by decide, by decide⟩
          · exact ⟨by decide, by decide⟩
        rw [hapt]
        ktf_call "go"
        refine ws_for (wi_R1 ?_)
        ktf_call "go"
        rename_i n hn
        refine ⟨_, n, rfl, by omega, by omega, fun i σ ps => ∃ v7 v8 v9 v10 v11 L as rs s l, σ = [some (.ref d), some (.int m), some (.ref wl), some (.int most), some (.ref pd), some (.ref fl), some (.int apt), v7, v8, v9, v10, v11] ∧ (RecsIn L as rs ∧ Hist m rs s l ∧ (∀ r, r ∈ rs → (0 ≤ r.hand ∧ r.hand < m) ∧ r.b ≤ r.e ∧ 0 ≤ r.e) ∧ rs.length = i ∧ l < apt * i + 5) ∧ Ent ps (pt fl (.lst (as.map V.ref)) :: tups L :: dictC pd s :: dice d a :: R), ⟨none, none, none, none, none, [], [], [], _, _, rfl, ⟨RecsIn.nil, .nil, fun r h => (nomatch h), rfl, by omega⟩, ?_⟩, fun _ _ _ _ _ => trivial, ?_, ?_⟩
        · refine Ent.trans (b := pt fl (.lst []) :: dictC pd (Pst.new m) :: dice d a :: R) (by ktf_call "ent") (Ent.cons tups_nil)
        · rintro i x ex σ ps hi ⟨rfl, rfl⟩ ⟨v7, v8, v9, v10, v11, L, as, rs, s, l, rfl, ⟨hrs, hh, hhand, hlen, hlt⟩, e⟩
          replace hi : i < n := hi
          have hwf := hh.wf
          refine Wg.ent e ?_
          ktf_call "go"
          rename_i wi hwi
          rw [List.length_map] at hwi
          refine w2_ixM (by ktf_call "rdl") ⟨by omega, by omega⟩ fun wd _ => ?_
          ktf_call "go"
          refine s_ldeed rfl (by ktf_call "pick") (by ktf_call "rdl") hl fun q dd hd hok => ?_
          ktf_call "go"
          rename_i h hh2
          refine w2_ixT (by ktf_call "rdt") (atI_nat (j := 0) dd.vals0) ?_
          ktf_call "go"
          rename_i r1 hr1 r2 hr2
          obtain ⟨hd2, eh, bh⟩ : ∃ k : Int, ((h : Int) * if (!decide (V.str dd.wd.str = V.str (Str.ofString "take"))) = true then 1 else 0) = k ∧ 0 ≤ k ∧ k < m := by
            refine ⟨_, rfl, ?_⟩
            split <;> omega
          rw [eh]
          refine s_lonce (by ktf_call "pick") (by ktf_call "rdt") hwf.1 bh (by omega) fun v => ?_
          refine Wa.opn (Opn.ent (picks2 (a := ansC v (s.ans dd)) (b := tups L) (by ktf_call "picks")) ans_pool) fun zz => ?_
          obtain ⟨⟨L2, hL⟩, hv⟩ := zz
          dsimp only at hv ⊢
          have hal := hrs.1
          ktf_call "go"
          rename_i p
          have e1 : apt * (0 + (i : Int)) = apt * i := by rw [Int.zero_add]
          have e2 : apt * ((i + 1 : Nat) : Int) = apt * i + apt := by rw [Int.natCast_add, Int.mul_add]; simp
          have e3 : 0 ≤ apt * (i : Int) := Int.mul_nonneg (by omega) (by omega)
          have hh' := hh.snoc (r := ⟨hd2, q, dd, max 0 (apt * (0 + (i : Int)) + 5 - r1), apt * (0 + (i : Int)) + 5 + r2, v, s.ans dd⟩) (by rw [e1]; show ¬ (apt * (i : Int) + 5 + r2 < l); omega) rfl
          refine ⟨_, _, _, _, _, L2 ++ [(q, dd.vals)] ++ [(p, [.int hd2, .ref q, .int (max 0 (apt * (0 + (i : Int)) + 5 - r1)), .int (apt * (0 + (i : Int)) + 5 + r2), v])], as ++ [p], rs ++ [_], _, _, rfl, ⟨?_, hh', ?_, by simp [hlen], ?_⟩, ?_⟩
          · exact (hrs.mono fun x m => more_snoc _ (more_snoc _ (hL x m))).snoc ⟨mem_snoc, more_snoc _ mem_snoc, hv.mono fun x m => more_snoc _ (more_snoc _ m)⟩
          · intro r hr
            rcases List.mem_append.mp hr with hr | hr
            · exact hhand r hr
            · rw [List.mem_singleton.mp hr]
              refine ⟨bh, ?_, ?_⟩
              · show max 0 (apt * (0 + (i : Int)) + 5 - r1) ≤ apt * (0 + (i : Int)) + 5 + r2
                rw [e1]; omega
              · show 0 ≤ apt * (0 + (i : Int)) + 5 + r2
                rw [e1]; omega
          · rw [e1, e2]
            show max l (max 0 (apt * (i : Int) + 5 - r1)) < _
            omega
          · have e4 : as.map V.ref ++ [V.ref p] = (as ++ [p]).map V.ref := by rw [List.map_append]; rfl
            rw [← e4]
            refine Ent.trans (b := pt fl (.lst (as.map V.ref ++ [V.ref p])) :: pt p (.tup [.int hd2, .ref q, .int (max 0 (apt * (0 + (i : Int)) + 5 - r1)), .int (apt * (0 + (i : Int)) + 5 + r2), v]) :: pt q (.tup dd.vals) :: tups L2 :: dictC pd _ :: dice d a :: R) ?_ (Ent.cons pool2)
            ktf_call "ent"
        rintro σ ps ⟨v7, v8, v9, v10, v11, L, as, rs, s, l, rfl, ⟨hrs, hh, hhand, hlen, hlt⟩, e⟩
        refine Ws.ent e ?_
        ktf_call "go"
        replace hlen : rs.length = n := hlen
        exact OutP.mk' (by ktf_call "ent") (k _ L as rs s l hrs hh hhand (by omega))) only [↓Bx.tr]
end
/-! ### a pool of lists -/
@[irreducible] def lpl (L : List (Addr × List V)) : HP := grp (L.map fun q => pt q.1 (.lst q.2))
theorem lpl_nil {R : List HP} : Ent R (lpl [] :: R) := fun H s => by unfold lpl; exact Sat.grp.mpr s
theorem lpl_snoc {R : List HP} {L : List (Addr × List V)} {a : Addr} {xs : List V} : Ent (pt a (.lst xs) :: lpl L :: R) (lpl (L ++ [(a, xs)]) :: R) := fun H s => by
  unfold lpl at *
  have s1 := Sat.grp.mp (s.perm (List.Perm.swap _ _ _))
  refine Sat.grp.mpr (s1.perm ?_)
  rw [List.map_append, List.append_assoc]
  exact .refl _
theorem lpl_perm {L L' : List (Addr × List V)} {R : List HP} (p : L.Perm L') : Ent (lpl L :: R) (lpl L' :: R) := fun H s => by
  unfold lpl at *
  exact Sat.grp.mpr ((Sat.grp.mp s).perm ((p.map _).append_right R))
theorem lpl_out {L : List (Addr × List V)} {R : List HP} {a : Addr} {xs : List V} : Ent (lpl ((a, xs) :: L) :: R) (pt a (.lst xs) :: lpl L :: R) := fun H s => by
  unfold lpl at *
  have s1 := Sat.grp.mp s
  rw [List.map_cons, List.cons_append] at s1
  exact (Sat.grp.mpr (s1.perm List.perm_middle.symm)).perm (List.Perm.swap _ _ _)
theorem lpl_take {L : List (Addr × List V)} {R : List HP} {a : Addr} {xs : List V} (h : (a, xs) ∈ L) : ∃ L', Ent (lpl L :: R) (pt a (.lst xs) :: lpl L' :: R) ∧ Ent (pt a (.lst xs) :: lpl L' :: R) (lpl L :: R) := by
  obtain ⟨l1, l2, rfl⟩ := List.append_of_mem h
  refine ⟨l1 ++ l2, (lpl_perm List.perm_middle).trans lpl_out, lpl_snoc.trans (lpl_perm ?_)⟩
  exact (List.perm_append_comm (l₁ := l1 ++ l2) (l₂ := [(a, xs)])).trans (List.perm_middle (l₁ := l1)).symm
theorem rdl_lpl {K : PySem.W.Frag} {ps : List HP} {L : List (Addr × List V)} {a : Addr} {xs : List V} (m : lpl L ∈ ps) (h : (a, xs) ∈ L) : RdL K ps a xs := by
  unfold RdL
  intro H s
  obtain ⟨l1, l2, rfl⟩ := List.append_of_mem m
  have s2 := s.perm (List.perm_middle (l₁ := l1) (l₂ := l2) (a := lpl L))
  unfold lpl at s2
  exact SqL.of ((Sat.grp.mp s2).get (List.mem_append.mpr (.inl (List.mem_map.mpr ⟨(a, xs), h, rfl⟩))))
/-- orders: lists of so many whole numbers -/
def OrdsIn (LP : List (Addr × List V)) (os : List Addr) (n : Nat) : Prop := ∀ o ∈ os, ∃ xs : List Int, (o, xs.map V.int) ∈ LP ∧ xs.length = n
theorem OrdsIn.mono {LP LP' : List (Addr × List V)} {os : List Addr} {n : Nat} (h : OrdsIn LP os n) (k : ∀ y ∈ LP, y ∈ LP') : OrdsIn LP' os n := fun o ho => let ⟨xs, h1, h2⟩ := h o ho; ⟨xs, k _ h1, h2⟩
theorem cut_lo {xs : List Int} {k : Nat} (h : k ≤ xs.length) : cutV (xs.map V.int) none (some (k : Int)) = (xs.take k).map V.int := by
  unfold cutV
  rw [List.length_map, HT.sIx_none, HT.sIx_nat, Nat.min_eq_left h, List.drop_zero, Nat.sub_zero, List.map_take]
theorem cut_hi {xs : List Int} {k : Nat} (h : k ≤ xs.length) : cutV (xs.map V.int) (some (k : Int)) none = (xs.drop k).map V.int := by
  unfold cutV
  rw [List.length_map, HT.sIx_none, HT.sIx_nat, Nat.min_eq_left h, List.map_drop, List.take_of_length_le (by rw [List.length_drop, List.length_map]; omega)]
section
variable {P : Program} {w : World} {K : PySem.W.Frag} {mg : Str → Option Value} {base : Heap}
def S_lorders : SP := fun vs ps Φ => ∃ n : Nat, vs = [.int n] ∧ n ≤ 5 ∧ ∀ (p : Addr) (os : List Addr) (LP : List (Addr × List V)), OrdsIn LP os n → Φ (.ref p) (pt p (.lst (os.map V.ref)) :: lpl LP :: ps)
theorem ok__law_orders (E : Env K mg) : FnOk P w K mg base CX0 1 E.f__law_orders E.fd__law_orders ["_law_many"] (spS S_lorders) := by
  refine Bx.out ?_
  simp (disch := with_unfolding_all
      refine okS E.F__law_orders sc__law_orders (fun vs ps Φ h => ?_) (fun cdv A outer s H E0 hr => ?_)
      · obtain ⟨n, rfl, _⟩ := h; rfl
      · refine ⟨_, ((pss_cons (ps_set (i := 1) sc__law_orders.nd rfl (by first | exact Or.inl rfl | exact Or.inr rfl) (pe_lst (pa_cons (pe_lst pa_nil) pa_nil)))
     (pss_cons (ps_for PassesOwn.never rfl (pi_range1 (by rfl) E.bn_range (pa_cons (pv 0) pa_nil)) (pg_name (i := 2) sc__law_orders.nd rfl (by first | exact Or.inl rfl | exact Or.inr rfl)) (pss_cons (ps_set (i := 3) sc__law_orders.nd rfl (by first | exact Or.inl rfl | exact Or.inr rfl) (pe_lst pa_nil))
     (pss_cons (ps_for PassesOwn.never rfl (pi_list (pv 1)) (pg_name (i := 4) sc__law_orders.nd rfl (by first | exact Or.inl rfl | exact Or.inr rfl)) (pss_one (ps_for PassesOwn.never rfl (pi_range1 (by rfl) E.bn_range (pa_cons (pe_op op_add (pe_callB cr_len (by rfl) E.bn_len (by decide +kernel) (pa_cons (pv 4) pa_nil)) pe_int) pa_nil)) (pg_name (i := 5) sc__law_orders.nd rfl (by first | exact Or.inl rfl | exact Or.inr rfl)) (pss_one (ps_expr (pe_bm PySem.F.plainAttrs_list PySem.F.slot_list_append PySem.F.type_list_append mt_append (pv 3) (pa_cons (pe_op op_cat (pe_op op_cat (pe_slice sl_list (pv 4) po_none (po_some (pv 5))) (pe_lst (pa_cons (pv 2) pa_nil))) (pe_slice sl_list (pv 4) (po_some (pv 5)) po_none)) pa_nil)))))))
     (pss_one (ps_set (i := 1) sc__law_orders.nd rfl (by first | exact Or.inl rfl | exact Or.inr rfl) (pv 3))))))
     (pss_one (ps_ret (pv 1)))))), fun vs ps Φ h => ?_⟩
        obtain ⟨n, rfl, hn, k⟩ := h
        try dsimp only [cxOf]
        show Ws _ _ _ _ _ [_, _, _, _, _, _] _
        ktf_call "go"
        rename_i o0 f0
        refine ws_for (wi_R1 ?_)
        ktf_call "go"
        refine ⟨_, n, rfl, by omega, by omega, fun i σ ps' => ∃ v2 v3 v4 v5 fp os LP, σ = [some (.int n), some (.ref fp), v2, v3, v4, v5] ∧ (OrdsIn LP os i ∧ os.length ≤ 6 ^ i) ∧ Ent ps' (pt fp (.lst (os.map V.ref)) :: lpl LP :: ps), ⟨none, none, none, none, f0, [o0], [(o0, [])], rfl, ⟨fun o ho => ⟨[], by rw [List.mem_singleton.mp ho]; exact List.mem_singleton.mpr rfl, rfl⟩, Nat.le_refl _⟩, ?_⟩, fun _ _ _ _ _ => trivial, ?_, ?_⟩
        · refine Ent.trans (b := pt o0 (.lst []) :: lpl [] :: pt f0 (.lst [.ref o0]) :: ps) ?_ (lpl_snoc.trans (Ent.perm (List.Perm.swap _ _ _)))
          refine (lpl_nil (R := _)).trans ?_
          ktf_call "ent"
        · rintro i y ex σ ps' hi ⟨rfl, rfl⟩ ⟨v2, v3, v4, v5, fp, os, LP, rfl, ⟨ho, hlo⟩, e⟩
          replace hi : i < n := hi
          have hp6 : 6 ^ i ≤ 6 ^ 4 := Nat.pow_le_pow_right (by decide) (by omega)
          have hp6' : 6 ^ (i + 1) = 6 ^ i * 6 := rfl
          have h64 : (6 : Nat) ^ 4 = 1296 := by decide
          refine Wg.ent e ?_
          dsimp only [List.nil_append]
          ktf_call "go"
          rename_i mp
          refine ws_for (wi_L ?_)
          ktf_call "go"
          refine ⟨fp, _, rfl, by ktf_call "rdl", fun j σ ps' => ∃ v4 v5 ms LP', σ = [some (.int n), some (.ref fp), some (.int (0 + (i : Nat))), some (.ref mp), v4, v5] ∧ (OrdsIn LP' ms (i + 1) ∧ ms.length = j * (i + 1) ∧ ∀ y ∈ LP, y ∈ LP') ∧ Ent ps' (pt mp (.lst (ms.map V.ref)) :: pt fp (.lst (os.map V.ref)) :: lpl LP' :: ps), ⟨v4, v5, [], LP, rfl, ⟨fun o h => (nomatch h), by simp, fun _ h => h⟩, by ktf_call "ent"⟩, ?_, ?_, ?_⟩
          · rintro j σ ps' ⟨v4, v5, ms, LP', rfl, _, e⟩ _
            exact RdL.ent e (by ktf_call "rdl")
          · rintro j y ex σ ps' hj ⟨hy, rfl⟩ ⟨v4, v5, ms, LP', rfl, ⟨hms, hml, hLP⟩, e⟩
            replace hj : j < (os.map V.ref).length := hj
            rw [List.length_map] at hj
            rw [List.getElem?_map, List.getElem?_eq_getElem hj] at hy
            have hy := Option.some.inj hy
            subst hy
            obtain ⟨xs, hx1, hx2⟩ := ho _ (List.getElem_mem hj)
            generalize os[j] = oa at hx1
            have hmul : (j + 1) * (i + 1) ≤ 1296 * 5 := Nat.mul_le_mul (by omega) (by omega)
            have hsuc : (j + 1) * (i + 1) = j * (i + 1) + (i + 1) := Nat.succ_mul _ _
            refine Wg.ent e ?_
            dsimp only [List.nil_append]
            ktf_call "go"
            refine ws_for (wi_R1 ?_)
            ktf_call "go"
            refine wc_lenL (rdl_lpl (L := LP') (by ktf_call "mem") (hLP _ hx1)) ?_
            rw [List.length_map, hx2]
            ktf_call "go"
            refine ⟨_, i + 1, rfl, by omega, by omega, fun t σ ps' => ∃ v5 ms LP', σ = [some (.int n), some (.ref fp), some (.int (0 + (i : Nat))), some (.ref mp), some (.ref oa), v5] ∧ (OrdsIn LP' ms (i + 1) ∧ ms.length = j * (i + 1) + t ∧ ∀ y ∈ LP, y ∈ LP') ∧ Ent ps' (pt mp (.lst (ms.map V.ref)) :: pt fp (.lst (os.map V.ref)) :: lpl LP' :: ps), ⟨v5, ms, LP', rfl, ⟨hms, hml, hLP⟩, by ktf_call "ent"⟩, fun _ _ _ _ _ => trivial, ?_, ?_⟩
            · rintro t y ex σ ps' ht ⟨rfl, rfl⟩ ⟨v5, ms, LP', rfl, ⟨hms, hml, hLP⟩, e⟩
              replace ht : t < i + 1 := ht
              have hrd : ∀ ps2, lpl LP' ∈ ps2 → RdL K ps2 oa (xs.map V.int) := fun ps2 h => rdl_lpl h (hLP _ hx1)
              refine Wg.ent e ?_
              dsimp only [List.nil_append]
              ktf_call "go"
              rw [show (0 + (t : Int)) = (t : Int) by omega]
              refine wsl_L (hrd _ (by ktf_call "mem")) fun s1 => ?_
              rw [cut_lo (by omega)]
              ktf_call "go"
              rename_i s2
              have hsz : ∀ z : Nat, z ≤ 100000 → z ≤ sizeLine := fun z hz => Nat.le_trans hz (by decide)
              refine w2_cat (xs := (xs.take t).map V.int) (ys := [.int (0 + (i : Nat))]) (by ktf_call "mem") (by ktf_call "mem") (hsz _ (by simp only [List.length_map, List.length_take, List.length_cons, List.length_nil]; omega)) fun s3 => ?_
              ktf_call "go"
              refine wsl_L (hrd _ (by ktf_call "mem")) fun s4 => ?_
              rw [cut_hi (by omega)]
              refine w2_cat (xs := (xs.take t).map V.int ++ [.int (0 + (i : Nat))]) (ys := (xs.drop t).map V.int) (by ktf_call "mem") (by ktf_call "mem") (hsz _ (by simp only [List.length_map, List.length_take, List.length_drop, List.length_cons, List.length_nil, List.length_append]; omega)) fun s5 => ?_
              have e5 : (xs.take t).map V.int ++ [.int (0 + (i : Nat))] ++ (xs.drop t).map V.int = (xs.take t ++ [0 + (i : Int)] ++ xs.drop t).map V.int := by simp
              rw [e5]
              ktf_call "go"
              refine ⟨_, ms ++ [s5], LP' ++ [(s5, (xs.take t ++ [0 + (i : Int)] ++ xs.drop t).map V.int)], rfl, ⟨fun o ho2 => ?_, by rw [List.length_append, hml]; rfl, fun y hy => List.mem_append_left _ (hLP y hy)⟩, ?_⟩
              · rcases List.mem_append.mp ho2 with z | z
                · exact (hms.mono fun y hy => List.mem_append_left _ hy) o z
                · rw [List.mem_singleton.mp z]
                  exact ⟨_, List.mem_append_right _ (List.mem_cons_self ..), by simp only [List.length_append, List.length_take, List.length_drop, List.length_cons, List.length_nil]; omega⟩
              · have e6 : (ms ++ [s5]).map V.ref = ms.map V.ref ++ [V.ref s5] := by rw [List.map_append]; rfl
                rw [e6]
                refine Ent.trans (?y1 : Ent _ (pt s5 (.lst ((xs.take t ++ [0 + (i : Int)] ++ xs.drop t).map V.int)) :: lpl LP' :: pt mp (.lst (ms.map V.ref ++ [V.ref s5])) :: pt fp (.lst (os.map V.ref)) :: ps)) (lpl_snoc.trans ?y2)
                case y1 => ktf_call "ent"
                case y2 => ktf_call "ent"
            · rintro σ ps' ⟨v5, ms, LP', rfl, ⟨hms, hml, hLP⟩, e⟩
              have e3 : (srcR 0 (i + 1)).n = i + 1 := rfl
              rw [e3] at hml
              exact ⟨_, _, ms, LP', rfl, ⟨hms, by rw [hml, hsuc], hLP⟩, e⟩
          · rintro σ ps' ⟨v4, v5, ms, LP', rfl, ⟨hms, hml, hLP⟩, e⟩
            have e3 : (srcL K fp (os.map V.ref)).n = os.length := by show (os.map V.ref).length = _; rw [List.length_map]
            rw [e3] at hml
            refine Ws.ent e ?_
            ktf_call "go"
            have h1 : os.length * (i + 1) ≤ 6 ^ i * 6 := Nat.mul_le_mul hlo (by omega)
            exact ⟨_, _, _, _, mp, ms, LP', rfl, ⟨hms, by omega⟩, by ktf_call "ent"⟩
        rintro σ ps' ⟨v2, v3, v4, v5, fp, os, LP, rfl, ⟨ho, hlo⟩, e⟩
        refine Ws.ent e ?_
        ktf_call "go"
        exact OutP.mk' (by ktf_call "ent") (k fp os LP ho)) only [↓Bx.tr]
end
/-! ### the law -/
def S_law (K : PySem.W.Frag) : SP := fun vs ps Φ => ∃ (a : Addr) (ns : List Int), vs = [.ref a] ∧ ps = [scr K a ns] ∧ ns.length ≤ 63 ∧ ∀ ps', Φ (.bl true) ps'
section
variable {P : Program} {w : World} {K : PySem.W.Frag} {mg : Str → Option Value} {base : Heap}
theorem ok_law (E : Env K mg) : FnOk P w K mg base CX0 17 E.f_law E.fd_law ["_law_script"] (spS (S_law K)) := by
  refine Bx.out ?_
  simp (disch := with_unfolding_all
      refine okS E.F_law sc_law (fun vs ps Φ h => ?_) (fun cdv A outer s H E0 hr => ?_)
      · obtain ⟨a, ns, rfl, _⟩ := h; rfl
      · refine ⟨_, ((pss_cons (ps_set (i := 1) sc_law.nd rfl (by first | exact Or.inl rfl | exact Or.inr rfl) (pe_op op_add pe_int (pe_op op_mod (pe_callB cr_abs (by rfl) E.bn_abs (by decide +kernel) (pa_cons (pe_call (ok__law_cell E) (hr.mono (by decide)) rfl E.g__law_cell E.k__law_cell E.b__law_cell .nil pass0 (pa_cons (pv 0) (pa_cons pe_int pa_nil))) pa_nil)) pe_int)))
     (pss_cons (ps_set (i := 2) sc_law.nd rfl (by first | exact Or.inl rfl | exact Or.inr rfl) (pe_lst (pa_cons (pe_lst (pa_cons pe_str (pa_cons pe_str (pa_cons pe_str pa_nil)))) (pa_cons (pe_lst (pa_cons pe_str (pa_cons pe_str (pa_cons pe_str pa_nil)))) (pa_cons (pe_lst (pa_cons pe_str (pa_cons pe_str pa_nil))) (pa_cons (pe_lst (pa_cons pe_str (pa_cons pe_str (pa_cons pe_str (pa_cons pe_str pa_nil))))) pa_nil))))))
     (pss_cons (ps_set (i := 3) sc_law.nd rfl (by first | exact Or.inl rfl | exact Or.inr rfl) (pe_call (ok__law_history E) (hr.mono (by decide)) rfl E.g__law_history E.k__law_history E.b__law_history .nil pass0 (pa_cons (pe_call (ok__law_dice E) (hr.mono (by decide)) rfl E.g__law_dice E.k__law_dice E.b__law_dice .nil pass0 (pa_cons (pv 0) (pa_cons pe_int pa_nil))) (pa_cons (pv 1) (pa_cons (pe_ix ix_list (pv 2) (pe_op op_mod (pe_callB cr_abs (by rfl) E.bn_abs (by decide +kernel) (pa_cons (pe_call (ok__law_cell E) (hr.mono (by decide)) rfl E.g__law_cell E.k__law_cell E.b__law_cell .nil pass0 (pa_cons (pv 0) (pa_cons pe_int pa_nil))) pa_nil)) pe_int) (fun _ _ => rfl)) (pa_cons pe_int pa_nil))))))
     (pss_cons (ps_set (i := 4) sc_law.nd rfl (by first | exact Or.inl rfl | exact Or.inr rfl) (pe_call (ok__law_dice E) (hr.mono (by decide)) rfl E.g__law_dice E.k__law_dice E.b__law_dice .nil pass0 (pa_cons (pv 0) (pa_cons pe_int pa_nil))))
     (pss_cons (ps_set (i := 5) sc_law.nd rfl (by first | exact Or.inl rfl | exact Or.inr rfl) (pe_op op_cat (pe_lc (own := [("_law_record", 8)]) (g := gName 8) (te := (tOp (rIxT K) _ _)) (tt := tYes)  (by rfl) sc_law.nd (pi_list (pv 3)) (blkOk_by (own := [("_law_record", 8)]) (N := n_law) (sc := defScope s_law) (by decide +kernel)) (fun _ _ _ _ _ => (pg_name (i := 8) sc_law.nd rfl (by first | exact Or.inl rfl | exact Or.inr rfl))) (fun _ _ _ _ _ => pts_nil) (fun _ _ _ _ _ => (pe_ix ix_tup (pv 8) pe_int (fun _ _ => rfl)))) (pe_lst (pa_cons pe_int (pa_cons pe_int (pa_cons pe_non pa_nil))))))
     (pss_cons (ps_for PassesOwn.never rfl (pi_range1 (by rfl) E.bn_range (pa_cons (pe_callB cr_len (by rfl) E.bn_len (by decide +kernel) (pa_cons (pv 3) pa_nil)) pa_nil)) (pg_name (i := 6) sc_law.nd rfl (by first | exact Or.inl rfl | exact Or.inr rfl)) (pss_one (ps_if (PW.pt (pw_and (pt_cmpR op_eq (pe_call (ok__law_off E) (hr.mono (by decide)) rfl E.g__law_off E.k__law_off E.b__law_off .nil pass0 (pa_cons (pv 4) (pa_cons pe_int pa_nil))) pe_int (nomark _)) (pw_and1 (pt_cmp (pc_notN (pe_ix ix_tup (pe_ix ix_list (pv 3) (pv 6) (fun _ _ => rfl)) pe_int (fun _ _ => rfl))))))) (pss_one (ps_asg (pe_op op_catA (pe_slice sl_tupA (pe_ix ix_list (pv 3) (pv 6) (fun _ _ => rfl)) po_none (po_some pe_int)) (pe_tup (pa_cons (pe_ix ix_list (pv 5) (pe_call (ok__law_off E) (hr.mono (by decide)) rfl E.g__law_off E.k__law_off E.b__law_off .nil pass0 (pa_cons (pv 4) (pa_cons (pe_callB cr_len (by rfl) E.bn_len (by decide +kernel) (pa_cons (pv 5) pa_nil)) pa_nil))) (fun _ _ => rfl)) pa_nil))) (pg_sub (pv 3) (pv 6) set_list))) pss_nil)))
     (pss_cons (ps_set (i := 7) sc_law.nd rfl (by first | exact Or.inl rfl | exact Or.inr rfl) (pe_call (ok_found_order E) (hr.mono (by decide)) rfl E.g_found_order E.k_found_order E.b_found_order .nil pass0 (pa_cons (pe_callTy cr_listOf (by rfl) E.bn_list (by decide +kernel) (pa_cons (pv 3) pa_nil)) (pa_cons (pv 1) pa_nil))))
     (pss_cons (ps_if (pt_cmp (pc_notN (pv 7))) (pss_one (ps_ret (pe_and (pe_callB cr_isi (by rfl) E.bn_isinstance (by decide +kernel) (pa_cons (pv 7) (pa_cons (pe_bltn (v := .ty "list") (by rfl) E.bn_list (by decide +kernel) rfl) pa_nil))) (pe_one (pe_call (ok__law_keeps E) (hr.mono (by decide)) rfl E.g__law_keeps E.k__law_keeps E.b__law_keeps .nil pass0 (pa_cons (pv 3) (pa_cons (pv 7) (pa_cons (pv 1) pa_nil)))))))) pss_nil)
     (pss_one (ps_ret (pe_cmpR (op_eqD hr.units) (pe_lc (own := [("_law_order", 9)]) (g := gName 9)  (by rfl) sc_law.nd (pi_list (pe_call (ok__law_orders E) (hr.mono (by decide)) rfl E.g__law_orders E.k__law_orders E.b__law_orders .nil pass0 (pa_cons (pe_callB cr_len (by rfl) E.bn_len (by decide +kernel) (pa_cons (pv 3) pa_nil)) pa_nil))) (blkOk_by (own := [("_law_order", 9)]) (N := n_law) (sc := defScope s_law) (by decide +kernel)) (fun _ _ _ _ _ => (pg_name (i := 9) sc_law.nd rfl (by first | exact Or.inl rfl | exact Or.inr rfl))) (fun _ _ _ _ _ => (pts_one (pt_val (pe_call (ok__law_keeps E) (hr.mono (by decide)) rfl E.g__law_keeps E.k__law_keeps E.b__law_keeps .nil pass0 (pa_cons (pv 3) (pa_cons (pv 9) (pa_cons (pv 1) pa_nil))))))) (fun _ _ _ _ _ => pe_int)) (pe_lst pa_nil) (nomark _))))))))))))), fun vs ps Φ h => ?_⟩
        obtain ⟨a, ns, rfl, rfl, hl, q⟩ := h
        try dsimp only [cxOf]
        show Ws _ _ _ _ _ [_, _, _, _, _, _, _, _, _, _] _
        have hl2 : ns.length ≤ 1000 := by omega
        ktf_call "go"
        obtain ⟨m, em⟩ : ∃ m : Nat, 1 + ((ns.getD (Int.toNat 0) 0).natAbs : Int) % 4 = (m : Int) := ⟨1 + (ns.getD (Int.toNat 0) 0).natAbs % 4, by omega⟩
        have hm : 1 ≤ m ∧ m ≤ 4 := by omega
        rw [em]
        rename_i w1 w2 w3 w4 wp dd0
        obtain ⟨wl, ws, hat, hrd, hws⟩ : ∃ (wl : Addr) (ws : List Wd), atI [V.ref w1, V.ref w2, V.ref w3, V.ref w4] (((ns.getD (Int.toNat 1) 0).natAbs : Int) % 4) = some (V.ref wl) ∧ RdL K [pt wp (.lst [.ref w1, .ref w2, .ref w3, .ref w4]), pt w4 (.lst [.str "add", .str "sum", .str "raise", .str "top"]), pt w3 (.lst [.str "set", .str "look"]), pt w2 (.lst [.str "give", .str "give", .str "take"]), pt w1 (.lst [.str "one", .str "one", .str "count"]), scr K a ns] wl (ws.map fun x => V.str x.str) ∧ 0 < ws.length ∧ ws.length ≤ 1000 := by
          rcases (show ((ns.getD (Int.toNat 1) 0).natAbs : Int) % 4 = 0 ∨ ((ns.getD (Int.toNat 1) 0).natAbs : Int) % 4 = 1 ∨ ((ns.getD (Int.toNat 1) 0).natAbs : Int) % 4 = 2 ∨ ((ns.getD (Int.toNat 1) 0).natAbs : Int) % 4 = 3 by omega) with e | e | e | e
          · exact ⟨w1, [.one, .one, .count], by rw [e]; rfl, rdl_pt (List.mem_cons_of_mem _ (List.mem_cons_of_mem _ (List.mem_cons_of_mem _ (List.mem_cons_of_mem _ List.mem_cons_self)))), by decide, by decide⟩
          · exact ⟨w2, [.give, .give, .take], by rw [e]; rfl, rdl_pt (List.mem_cons_of_mem _ (List.mem_cons_of_mem _ (List.mem_cons_of_mem _ List.mem_cons_self))), by decide, by decide⟩
          · exact ⟨w3, [.set, .look], by rw [e]; rfl, rdl_pt (List.mem_cons_of_mem _ (List.mem_cons_of_mem _ List.mem_cons_self)), by decide, by decide⟩
          · exact ⟨w4, [.add, .sum, .raise, .top], by rw [e]; rfl, rdl_pt (List.mem_cons_of_mem _ List.mem_cons_self), by decide, by decide⟩
        refine w2_ixL (by ktf_call "rdl") hat ?_
        ktf_call "go"
        refine ⟨_, _, wl, ns, ws, m, 5, _, rfl, .hd, by ktf_call "rdl", hrd, hl2, hws, by omega, by omega, fun p L as rs s l hrs hh hhand hlen => ?_⟩
        show Wg _ _ _ _ _
        have hal := hrs.1
        ktf_call "go"
        rename_i d2
        refine we_lc (wi_L ?_)
        ktf_call "go"
        refine ⟨p, _, rfl, by ktf_call "rdl", fun d i acc ps => acc = (rs.take i).map Rec.v ∧ Ent ps [pt d (.lst acc), pt p (.lst (as.map V.ref)), tups L, dice d2 a, scr K a ns], fun d => ⟨by simp, by ktf_call "ent"⟩, ?_, ?_, ?_⟩
        · rintro d i acc ps ⟨_, e⟩ _
          exact RdL.ent e (by ktf_call "rdl")
        · rintro d i y ex acc ps hi ⟨hy, rfl⟩ ⟨rfl, e⟩
          replace hi : i < (as.map V.ref).length := hi
          rw [List.length_map] at hi
          rw [List.getElem?_map, List.getElem?_eq_getElem hi] at hy
          have hy := Option.some.inj hy
          subst hy
          have hi2 : i < rs.length := by omega
          have hin := hrs.2 i as[i] rs[i] (List.getElem?_eq_getElem hi) (List.getElem?_eq_getElem hi2)
          have etk : rs.take (i + 1) = rs.take i ++ [rs[i]] := by rw [List.take_succ, List.getElem?_eq_getElem hi2]; rfl
          have hsz : ((rs.take i).map Rec.v).length < sizeLine := by rw [List.length_map, List.length_take]; exact Nat.lt_of_le_of_lt (m := 1000) (by omega) (by decide)
          refine Wg.ent e ?_
          dsimp only [List.nil_append]
          ktf_call "go"
          refine w2_ixT (xs := (rs[i]).vals) (rdt_tups (L := L) (by ktf_call "mem") hin.1) rfl ?_
          ktf_call "go"
          refine ⟨?_, by ktf_call "ent"⟩
          rw [etk, List.map_append]; rfl
        rintro tp0 acc ps ⟨rfl, e⟩
        have e3 : (srcL K p (as.map V.ref)).n = rs.length := by show (as.map V.ref).length = _; rw [List.length_map, hal]
        rw [e3, List.take_length] at e
        refine We.ent e ?_
        clear e
        ktf_call "go"
        refine w2_cat (xs := rs.map Rec.v) (ys := [.int 0, .int 1, .non]) (by ktf_call "mem") (by ktf_call "mem") (Nat.le_trans (m := 1000) (by simp only [List.length_map, List.length_cons, List.length_nil]; omega) (by decide)) fun tp => ?_
        obtain ⟨tv, htv⟩ : ∃ tv, tv = rs.map Rec.v ++ [V.int 0, .int 1, .non] := ⟨_, rfl⟩
        have htan : ∀ v ∈ tv, ∃ an, AnsR L v an := by
          intro v hv
          rw [htv] at hv
          rcases List.mem_append.mp hv with z | z
          · obtain ⟨r, hr, rfl⟩ := List.mem_map.mp z
            obtain ⟨i, hi, rfl⟩ := List.getElem_of_mem hr
            exact ⟨_, (hrs.2 i (as[i]'(by omega)) rs[i] (List.getElem?_eq_getElem (by omega)) (List.getElem?_eq_getElem hi)).2.2⟩
          · simp only [List.mem_cons, List.not_mem_nil, or_false] at z
            rcases z with rfl | rfl | rfl
            · exact ⟨.int 0, rfl⟩
            · exact ⟨.int 1, rfl⟩
            · exact ⟨.non, rfl⟩
        have htl : tv.length = rs.length + 3 := by rw [htv]; simp
        rw [← htv]
        clear htv
        ktf_call "go"
        refine ws_for (wi_R1 ?_)
        ktf_call "go"
        refine ⟨_, rs.length, rfl, by simp only [List.length_map]; omega, by simp only [List.length_map]; omega, fun i σ ps => ∃ v6 L' as' rs', σ = [some (.ref a), some (.int m), some (.ref wp), some (.ref p), some (.ref d2), some (.ref tp), v6, none, none, none] ∧ (RecsIn L' as' rs' ∧ (∀ r, r ∈ rs' → (0 ≤ r.hand ∧ r.hand < m) ∧ r.b ≤ r.e ∧ 0 ≤ r.e) ∧ rs'.length = rs.length ∧ ∀ y ∈ L, y ∈ L') ∧ Ent ps [pt p (.lst (as'.map V.ref)), tups L', pt tp (.lst tv), dice d2 a, scr K a ns], ⟨none, L, as, rs, rfl, ⟨hrs, hhand, rfl, fun _ h => h⟩, by ktf_call "ent"⟩, fun _ _ _ _ _ => trivial, ?_, ?_⟩
        · rintro i y ex σ ps hi ⟨rfl, rfl⟩ ⟨v6, L', as', rs', rfl, ⟨hrs', hhand', hlen', hL⟩, e⟩
          replace hi : i < rs.length := hi
          have hal' := hrs'.1
          refine Wg.ent e ?_
          clear e
          dsimp only [List.nil_append]
          ktf_call "go"
          refine iteD (fun _ => ?_) (fun _ => ?_)
          · ktf_call "go"
            refine w2_ixM (by ktf_call "rdl") ⟨by omega, by omega⟩ fun x hx => ?_
            rw [show (0 + (i : Int)).toNat = i by omega] at hx
            obtain ⟨r, hr⟩ : ∃ r, rs'[i]? = some r := ⟨_, List.getElem?_eq_getElem (by omega)⟩
            obtain ⟨rh, rdA, rdd, rb, re, rv, ran⟩ := r
            obtain ⟨g1, g2, g3⟩ := hrs'.2 i x _ hx hr
            have hrd2 := hhand' _ (List.mem_of_getElem? hr)
            simp only [Rec.vals] at g1 g2 g3 hrd2
            ktf_call "go"
            refine iteND (fun hnn => ?_) (fun hnn => ?_)
            · ktf_call "go"
              refine w2_ixM (by ktf_call "rdl") ⟨by omega, by omega⟩ fun x2 hx2 => ?_
              rw [show (0 + (i : Int)).toNat = i by omega, hx] at hx2
              obtain rfl := Option.some.inj hx2
              ktf_call "go"
              refine wsl_T (rdt_tups (L := L') (by ktf_call "mem") g1) (fun z => absurd z.2 (by simp [HT.sIx])) (fun s4p s4 => ?_)
              have ec : cutV [V.int rh, V.ref rdA, V.int rb, V.int re, rv] none (some 4) = [V.int rh, V.ref rdA, V.int rb, V.int re] := rfl
              rw [ec]
              ktf_call "go"
              rename_i kk hkk
              obtain ⟨v, hv⟩ : ∃ v, tv[kk]? = some v := ⟨_, List.getElem?_eq_getElem (by omega)⟩
              obtain ⟨an, han⟩ := htan v (List.mem_of_getElem? hv)
              refine w2_ixL (by ktf_call "rdl") (atI_of rfl hv) ?_
              ktf_call "go"
              refine w2_catT (xs := [V.int rh, V.ref rdA, V.int rb, V.int re]) (ys := [v]) (by ktf_call "rdt") (by ktf_call "rdt") (by show 4 + 1 ≤ sizeLine; decide) (fun z => nomatch z) (fun z => nomatch z) (fun tn => ?_)
              have en : [V.int rh, V.ref rdA, V.int rb, V.int re] ++ [v] = [V.int rh, V.ref rdA, V.int rb, V.int re, v] := rfl
              rw [en]
              ktf_call "go"
              refine wst_L (n := i) (by ktf_call "rep") (by omega) (by rw [List.length_map]; omega) ?_
              ktf_call "go"
              refine ⟨_, L' ++ [(tn, [V.int rh, V.ref rdA, V.int rb, V.int re, v])], as'.set i tn, rs'.set i ⟨rh, rdA, rdd, rb, re, v, an⟩, rfl, ⟨(hrs'.mono more_snoc).set (by omega) ⟨mem_snoc, more_snoc _ g2, (han.mono hL).mono more_snoc⟩, fun z hz => ?_, by rw [List.length_set]; exact hlen', fun z hz => more_snoc _ (hL z hz)⟩, ?_⟩
              · rcases List.mem_or_eq_of_mem_set hz with z2 | rfl
                · exact hhand' z z2
                · exact hrd2
              · rw [List.map_set]
                refine Ent.trans (b := pt p (.lst ((as'.map V.ref).set i (.ref tn))) :: pt tn (.tup [V.int rh, V.ref rdA, V.int rb, V.int re, v]) :: tups L' :: pt tp (.lst tv) :: dice d2 a :: scr K a ns :: []) ?_ (Ent.cons tups_snoc)
                ktf_call "ent"
            · ktf_call "go"
              exact ⟨_, L', as', rs', rfl, ⟨hrs', hhand', hlen', hL⟩, by ktf_call "ent"⟩
          · ktf_call "go"
            exact ⟨_, L', as', rs', rfl, ⟨hrs', hhand', hlen', hL⟩, by ktf_call "ent"⟩
        rintro σ ps ⟨v6, L', as', rs', rfl, ⟨hrs', hhand', hlen', hL⟩, e⟩
        have hal' := hrs'.1
        have hso : SrOk L' as' rs' m := ⟨hrs', fun r hr => (hhand' r hr).1, fun r hr => (hhand' r hr).2.1, fun r hr => by have := (hhand' r hr).2.2; omega, by omega⟩
        refine Ws.ent e ?_
        clear e
        ktf_call "go"
        rename_i hp
        refine z_found (rp := hp) (L := L') (as := as') (rs := rs') (m := m) (by ktf_call "ent") hso (by omega) fun L2 hL2 => ⟨fun fp O hf => ?_, fun hn => ?_⟩
        · have hke : keepsF rs' O m = true := Mir.fnd_keeps (fun r hr => hso.be0 r hr) hf
          have hOl : O.length = rs'.length := by rw [hf.1.length_eq, upto_len]
          have hrs2 := hrs'.mono hL2
          ktf_call "go"
          refine z_keeps (L := L2) (as := as') (rs := rs') (order := O) (by ktf_call "mem") (by ktf_call "mem") (by ktf_call "mem") hrs2 hso.hand (by omega) ?_
          rw [hke]
          ktf_call "go"
          exact .here (q _)
        · have hrs2 := hrs'.mono hL2
          have hkf : ∀ xs : List Int, keepsF rs' xs m = false := fun xs => by
            cases h : keepsF rs' xs m with
            | true => exact absurd (Mir.keeps_has h) hn
            | false => rfl
          ktf_call "go"
          refine we_lc (wi_L ?_)
          ktf_call "go"
          rw [List.length_map, hal']
          refine ⟨rs'.length, rfl, by omega, fun op os LP ho => ?_⟩
          refine ⟨op, _, rfl, by ktf_call "rdl", fun d i acc ps => acc = [] ∧ Ent ps (lpl LP :: pt d (.lst []) :: pt op (.lst (os.map V.ref)) :: [tups L2, pt p (.lst (as'.map V.ref)), dice d2 a, scr K a ns]), fun d => ⟨rfl, by ktf_call "ent"⟩, ?_, ?_, ?_⟩
          · rintro d i acc ps ⟨_, e⟩ _
            exact RdL.ent e (by ktf_call "rdl")
          · rintro d i y ex acc ps hi ⟨hy, rfl⟩ ⟨rfl, e⟩
            replace hi : i < (os.map V.ref).length := hi
            rw [List.length_map] at hi
            rw [List.getElem?_map, List.getElem?_eq_getElem hi] at hy
            have hy := Option.some.inj hy
            subst hy
            obtain ⟨xs, hx1, hx2⟩ := ho _ (List.getElem_mem hi)
            generalize os[i] = oa at hx1
            obtain ⟨LP', e1, e2⟩ := lpl_take (R := pt d (.lst []) :: pt op (.lst (os.map V.ref)) :: [tups L2, pt p (.lst (as'.map V.ref)), dice d2 a, scr K a ns]) hx1
            refine Wg.ent (e.trans e1) ?_
            clear e
            dsimp only [List.nil_append]
            ktf_call "go"
            refine z_keeps (L := L2) (as := as') (rs := rs') (order := xs) (by ktf_call "mem") (by ktf_call "mem") (by ktf_call "mem") hrs2 hso.hand (by omega) ?_
            rw [hkf]
            ktf_call "go"
            exact ⟨rfl, e2⟩
          rintro d acc ps ⟨rfl, e⟩
          refine We.ent e ?_
          ktf_call "go"
          exact .here (q _)) only [↓Bx.tr]
end
theorem noCons {K : PySem.W.Frag} {C : Addr} {f : Str} {r : List Str} (h : NoAttr K C f) (t : ∀ g ∈ r, NoAttr K C g) : ∀ g ∈ f :: r, NoAttr K C g := fun g m => by
  rcases List.mem_cons.mp m with e | m
  · subst e; exact h
  · exact t g m
theorem all_mk {l : PySem.W.OpenLaw} {w : World} {K : PySem.W.Frag} {h : Heap} {mg : Str → Option Value} {fa : Addr} (X : K.In h) (G : h.Ns mainGlobals mg) (hfa : mg "law" = some (.ref fa))
    {f_Plain_init : Addr} {oc_Plain_init kV_Plain_init dc_Plain_init pm_Plain_init cd_Plain_init ct_Plain_init : Value} {od_Plain_init an_Plain_init : Option Addr} {sl_Plain_init : Array (Option Value)}
    {f_Plain_done : Addr} {oc_Plain_done kV_Plain_done dc_Plain_done pm_Plain_done cd_Plain_done ct_Plain_done : Value} {od_Plain_done an_Plain_done : Option Addr} {sl_Plain_done : Array (Option Value)}
    {f_Plain_changed : Addr} {oc_Plain_changed kV_Plain_changed dc_Plain_changed pm_Plain_changed cd_Plain_changed ct_Plain_changed : Value} {od_Plain_changed an_Plain_changed : Option Addr} {sl_Plain_changed : Array (Option Value)}
    {f_Plain_state : Addr} {oc_Plain_state kV_Plain_state dc_Plain_state pm_Plain_state cd_Plain_state ct_Plain_state : Value} {od_Plain_state an_Plain_state : Option Addr} {sl_Plain_state : Array (Option Value)}
    {f_Plain_twin : Addr} {oc_Plain_twin kV_Plain_twin dc_Plain_twin pm_Plain_twin cd_Plain_twin ct_Plain_twin : Value} {od_Plain_twin an_Plain_twin : Option Addr} {sl_Plain_twin : Array (Option Value)}
    {f_Search_init : Addr} {oc_Search_init kV_Search_init dc_Search_init pm_Search_init cd_Search_init ct_Search_init : Value} {od_Search_init an_Search_init : Option Addr} {sl_Search_init : Array (Option Value)}
    {f_Search_first_ones : Addr} {oc_Search_first_ones kV_Search_first_ones dc_Search_first_ones pm_Search_first_ones cd_Search_first_ones ct_Search_first_ones : Value} {od_Search_first_ones an_Search_first_ones : Option Addr} {sl_Search_first_ones : Array (Option Value)}
    {f_Search_tried : Addr} {oc_Search_tried kV_Search_tried dc_Search_tried pm_Search_tried cd_Search_tried ct_Search_tried : Value} {od_Search_tried an_Search_tried : Option Addr} {sl_Search_tried : Array (Option Value)}
    {f_found_order : Addr} {oc_found_order kV_found_order dc_found_order pm_found_order cd_found_order ct_found_order : Value} {od_found_order an_found_order : Option Addr} {sl_found_order : Array (Option Value)}
    {f__law_cell : Addr} {oc__law_cell kV__law_cell dc__law_cell pm__law_cell cd__law_cell ct__law_cell : Value} {od__law_cell an__law_cell : Option Addr} {sl__law_cell : Array (Option Value)}
    {f__law_dice : Addr} {oc__law_dice kV__law_dice dc__law_dice pm__law_dice cd__law_dice ct__law_dice : Value} {od__law_dice an__law_dice : Option Addr} {sl__law_dice : Array (Option Value)}
    {f__law_off : Addr} {oc__law_off kV__law_off dc__law_off pm__law_off cd__law_off ct__law_off : Value} {od__law_off an__law_off : Option Addr} {sl__law_off : Array (Option Value)}
    {f__law_plain : Addr} {oc__law_plain kV__law_plain dc__law_plain pm__law_plain cd__law_plain ct__law_plain : Value} {od__law_plain an__law_plain : Option Addr} {sl__law_plain : Array (Option Value)}
    {f__law_at_once : Addr} {oc__law_at_once kV__law_at_once dc__law_at_once pm__law_at_once cd__law_at_once ct__law_at_once : Value} {od__law_at_once an__law_at_once : Option Addr} {sl__law_at_once : Array (Option Value)}
    {f__law_deed : Addr} {oc__law_deed kV__law_deed dc__law_deed pm__law_deed cd__law_deed ct__law_deed : Value} {od__law_deed an__law_deed : Option Addr} {sl__law_deed : Array (Option Value)}
    {f__law_keeps : Addr} {oc__law_keeps kV__law_keeps dc__law_keeps pm__law_keeps cd__law_keeps ct__law_keeps : Value} {od__law_keeps an__law_keeps : Option Addr} {sl__law_keeps : Array (Option Value)}
    {f__law_history : Addr} {oc__law_history kV__law_history dc__law_history pm__law_history cd__law_history ct__law_history : Value} {od__law_history an__law_history : Option Addr} {sl__law_history : Array (Option Value)}
    {f__law_orders : Addr} {oc__law_orders kV__law_orders dc__law_orders pm__law_orders cd__law_orders ct__law_orders : Value} {od__law_orders an__law_orders : Option Addr} {sl__law_orders : Array (Option Value)}
    {f_law : Addr} {oc_law kV_law dc_law pm_law cd_law ct_law : Value} {od_law an_law : Option Addr} {sl_law : Array (Option Value)}
    {C_Plain : Addr}
    {C_Search : Addr}
    {e_HandsError : Addr}
    {e_NoDeed : Addr}
    {gt_MOST_RECORDS : Tok}
    (n_f_found_order : PySem.W.nsIn K mainGlobals "found_order" = some (some (.ref f_found_order)))
    (n_f__law_cell : PySem.W.nsIn K mainGlobals "_law_cell" = some (some (.ref f__law_cell)))
    (n_f__law_dice : PySem.W.nsIn K mainGlobals "_law_dice" = some (some (.ref f__law_dice)))
    (n_f__law_off : PySem.W.nsIn K mainGlobals "_law_off" = some (some (.ref f__law_off)))
    (n_f__law_plain : PySem.W.nsIn K mainGlobals "_law_plain" = some (some (.ref f__law_plain)))
    (n_f__law_at_once : PySem.W.nsIn K mainGlobals "_law_at_once" = some (some (.ref f__law_at_once)))
    (n_f__law_deed : PySem.W.nsIn K mainGlobals "_law_deed" = some (some (.ref f__law_deed)))
    (n_f__law_keeps : PySem.W.nsIn K mainGlobals "_law_keeps" = some (some (.ref f__law_keeps)))
    (n_f__law_history : PySem.W.nsIn K mainGlobals "_law_history" = some (some (.ref f__law_history)))
    (n_f__law_orders : PySem.W.nsIn K mainGlobals "_law_orders" = some (some (.ref f__law_orders)))
    (n_f_law : PySem.W.nsIn K mainGlobals "law" = some (some (.ref f_law)))
    (n_c_Plain : PySem.W.nsIn K mainGlobals "Plain" = some (some (.ref C_Plain)))
    (n_c_Search : PySem.W.nsIn K mainGlobals "Search" = some (some (.ref C_Search)))
    (n_e_HandsError : PySem.W.nsIn K mainGlobals "HandsError" = some (some (.ref e_HandsError)))
    (n_e_NoDeed : PySem.W.nsIn K mainGlobals "NoDeed" = some (some (.ref e_NoDeed)))
    (n_k_MOST_RECORDS : PySem.W.nsIn K mainGlobals "MOST_RECORDS" = some (some (.int 10 gt_MOST_RECORDS)))
    (mi_Plain : PySem.W.findIn K (.ref C_Plain) "__init__" = some (some (.ref f_Plain_init)))
    (ma_Plain_done : PySem.W.findIn K (.ref C_Plain) "done" = some (some (.ref f_Plain_done)))
    (ma_Plain_changed : PySem.W.findIn K (.ref C_Plain) "changed" = some (some (.ref f_Plain_changed)))
    (ma_Plain_state : PySem.W.findIn K (.ref C_Plain) "state" = some (some (.ref f_Plain_state)))
    (ma_Plain_twin : PySem.W.findIn K (.ref C_Plain) "twin" = some (some (.ref f_Plain_twin)))
    (mi_Search : PySem.W.findIn K (.ref C_Search) "__init__" = some (some (.ref f_Search_init)))
    (ma_Search_first_ones : PySem.W.findIn K (.ref C_Search) "first_ones" = some (some (.ref f_Search_first_ones)))
    (ma_Search_tried : PySem.W.findIn K (.ref C_Search) "tried" = some (some (.ref f_Search_tried)))
    (l_Plain_init : K.lookup f_Plain_init = some ⟨oc_Plain_init, od_Plain_init, .func (PySem.W.fnOf "__init__" "Plain.__init__" (defArgs s_Plain_init) (defBody s_Plain_init) (defScope s_Plain_init) .none kV_Plain_init dc_Plain_init pm_Plain_init an_Plain_init cd_Plain_init ct_Plain_init), sl_Plain_init⟩)
    (l_Plain_done : K.lookup f_Plain_done = some ⟨oc_Plain_done, od_Plain_done, .func (PySem.W.fnOf "done" "Plain.done" (defArgs s_Plain_done) (defBody s_Plain_done) (defScope s_Plain_done) .none kV_Plain_done dc_Plain_done pm_Plain_done an_Plain_done cd_Plain_done ct_Plain_done), sl_Plain_done⟩)
    (l_Plain_changed : K.lookup f_Plain_changed = some ⟨oc_Plain_changed, od_Plain_changed, .func (PySem.W.fnOf "changed" "Plain.changed" (defArgs s_Plain_changed) (defBody s_Plain_changed) (defScope s_Plain_changed) .none kV_Plain_changed dc_Plain_changed pm_Plain_changed an_Plain_changed cd_Plain_changed ct_Plain_changed), sl_Plain_changed⟩)
    (l_Plain_state : K.lookup f_Plain_state = some ⟨oc_Plain_state, od_Plain_state, .func (PySem.W.fnOf "state" "Plain.state" (defArgs s_Plain_state) (defBody s_Plain_state) (defScope s_Plain_state) .none kV_Plain_state dc_Plain_state pm_Plain_state an_Plain_state cd_Plain_state ct_Plain_state), sl_Plain_state⟩)
    (l_Plain_twin : K.lookup f_Plain_twin = some ⟨oc_Plain_twin, od_Plain_twin, .func (PySem.W.fnOf "twin" "Plain.twin" (defArgs s_Plain_twin) (defBody s_Plain_twin) (defScope s_Plain_twin) .none kV_Plain_twin dc_Plain_twin pm_Plain_twin an_Plain_twin cd_Plain_twin ct_Plain_twin), sl_Plain_twin⟩)
    (l_Search_init : K.lookup f_Search_init = some ⟨oc_Search_init, od_Search_init, .func (PySem.W.fnOf "__init__" "Search.__init__" (defArgs s_Search_init) (defBody s_Search_init) (defScope s_Search_init) .none kV_Search_init dc_Search_init pm_Search_init an_Search_init cd_Search_init ct_Search_init), sl_Search_init⟩)
    (l_Search_first_ones : K.lookup f_Search_first_ones = some ⟨oc_Search_first_ones, od_Search_first_ones, .func (PySem.W.fnOf "first_ones" "Search.first_ones" (defArgs s_Search_first_ones) (defBody s_Search_first_ones) (defScope s_Search_first_ones) .none kV_Search_first_ones dc_Search_first_ones pm_Search_first_ones an_Search_first_ones cd_Search_first_ones ct_Search_first_ones), sl_Search_first_ones⟩)
    (l_Search_tried : K.lookup f_Search_tried = some ⟨oc_Search_tried, od_Search_tried, .func (PySem.W.fnOf "tried" "Search.tried" (defArgs s_Search_tried) (defBody s_Search_tried) (defScope s_Search_tried) .none kV_Search_tried dc_Search_tried pm_Search_tried an_Search_tried cd_Search_tried ct_Search_tried), sl_Search_tried⟩)
    (l_found_order : K.lookup f_found_order = some ⟨oc_found_order, od_found_order, .func (PySem.W.fnOf "found_order" "found_order" (defArgs s_found_order) (defBody s_found_order) (defScope s_found_order) .none kV_found_order dc_found_order pm_found_order an_found_order cd_found_order ct_found_order), sl_found_order⟩)
    (l__law_cell : K.lookup f__law_cell = some ⟨oc__law_cell, od__law_cell, .func (PySem.W.fnOf "_law_cell" "_law_cell" (defArgs s__law_cell) (defBody s__law_cell) (defScope s__law_cell) .none kV__law_cell dc__law_cell pm__law_cell an__law_cell cd__law_cell ct__law_cell), sl__law_cell⟩)
    (l__law_dice : K.lookup f__law_dice = some ⟨oc__law_dice, od__law_dice, .func (PySem.W.fnOf "_law_dice" "_law_dice" (defArgs s__law_dice) (defBody s__law_dice) (defScope s__law_dice) .none kV__law_dice dc__law_dice pm__law_dice an__law_dice cd__law_dice ct__law_dice), sl__law_dice⟩)
    (l__law_off : K.lookup f__law_off = some ⟨oc__law_off, od__law_off, .func (PySem.W.fnOf "_law_off" "_law_off" (defArgs s__law_off) (defBody s__law_off) (defScope s__law_off) .none kV__law_off dc__law_off pm__law_off an__law_off cd__law_off ct__law_off), sl__law_off⟩)
    (l__law_plain : K.lookup f__law_plain = some ⟨oc__law_plain, od__law_plain, .func (PySem.W.fnOf "_law_plain" "_law_plain" (defArgs s__law_plain) (defBody s__law_plain) (defScope s__law_plain) .none kV__law_plain dc__law_plain pm__law_plain an__law_plain cd__law_plain ct__law_plain), sl__law_plain⟩)
    (l__law_at_once : K.lookup f__law_at_once = some ⟨oc__law_at_once, od__law_at_once, .func (PySem.W.fnOf "_law_at_once" "_law_at_once" (defArgs s__law_at_once) (defBody s__law_at_once) (defScope s__law_at_once) .none kV__law_at_once dc__law_at_once pm__law_at_once an__law_at_once cd__law_at_once ct__law_at_once), sl__law_at_once⟩)
    (l__law_deed : K.lookup f__law_deed = some ⟨oc__law_deed, od__law_deed, .func (PySem.W.fnOf "_law_deed" "_law_deed" (defArgs s__law_deed) (defBody s__law_deed) (defScope s__law_deed) .none kV__law_deed dc__law_deed pm__law_deed an__law_deed cd__law_deed ct__law_deed), sl__law_deed⟩)
    (l__law_keeps : K.lookup f__law_keeps = some ⟨oc__law_keeps, od__law_keeps, .func (PySem.W.fnOf "_law_keeps" "_law_keeps" (defArgs s__law_keeps) (defBody s__law_keeps) (defScope s__law_keeps) .none kV__law_keeps dc__law_keeps pm__law_keeps an__law_keeps cd__law_keeps ct__law_keeps), sl__law_keeps⟩)
    (l__law_history : K.lookup f__law_history = some ⟨oc__law_history, od__law_history, .func (PySem.W.fnOf "_law_history" "_law_history" (defArgs s__law_history) (defBody s__law_history) (defScope s__law_history) .none kV__law_history dc__law_history pm__law_history an__law_history cd__law_history ct__law_history), sl__law_history⟩)
    (l__law_orders : K.lookup f__law_orders = some ⟨oc__law_orders, od__law_orders, .func (PySem.W.fnOf "_law_orders" "_law_orders" (defArgs s__law_orders) (defBody s__law_orders) (defScope s__law_orders) .none kV__law_orders dc__law_orders pm__law_orders an__law_orders cd__law_orders ct__law_orders), sl__law_orders⟩)
    (l_law : K.lookup f_law = some ⟨oc_law, od_law, .func (PySem.W.fnOf "law" "law" (defArgs s_law) (defBody s_law) (defScope s_law) .none kV_law dc_law pm_law an_law cd_law ct_law), sl_law⟩)
    (c_Plain_init : PySem.W.codeIn K cd_Plain_init "Plain.__init__" = true)
    (kk_Plain_init : PySem.W.keepIn K (.ref f_Plain_init) = true)
    (c_Plain_done : PySem.W.codeIn K cd_Plain_done "Plain.done" = true)
    (kk_Plain_done : PySem.W.keepIn K (.ref f_Plain_done) = true)
    (c_Plain_changed : PySem.W.codeIn K cd_Plain_changed "Plain.changed" = true)
    (kk_Plain_changed : PySem.W.keepIn K (.ref f_Plain_changed) = true)
    (c_Plain_state : PySem.W.codeIn K cd_Plain_state "Plain.state" = true)
    (kk_Plain_state : PySem.W.keepIn K (.ref f_Plain_state) = true)
    (c_Plain_twin : PySem.W.codeIn K cd_Plain_twin "Plain.twin" = true)
    (kk_Plain_twin : PySem.W.keepIn K (.ref f_Plain_twin) = true)
    (c_Search_init : PySem.W.codeIn K cd_Search_init "Search.__init__" = true)
    (kk_Search_init : PySem.W.keepIn K (.ref f_Search_init) = true)
    (c_Search_first_ones : PySem.W.codeIn K cd_Search_first_ones "Search.first_ones" = true)
    (kk_Search_first_ones : PySem.W.keepIn K (.ref f_Search_first_ones) = true)
    (c_Search_tried : PySem.W.codeIn K cd_Search_tried "Search.tried" = true)
    (kk_Search_tried : PySem.W.keepIn K (.ref f_Search_tried) = true)
    (c_found_order : PySem.W.codeIn K cd_found_order "found_order" = true)
    (kk_found_order : PySem.W.keepIn K (.ref f_found_order) = true)
    (c__law_cell : PySem.W.codeIn K cd__law_cell "_law_cell" = true)
    (kk__law_cell : PySem.W.keepIn K (.ref f__law_cell) = true)
    (c__law_dice : PySem.W.codeIn K cd__law_dice "_law_dice" = true)
    (kk__law_dice : PySem.W.keepIn K (.ref f__law_dice) = true)
    (c__law_off : PySem.W.codeIn K cd__law_off "_law_off" = true)
    (kk__law_off : PySem.W.keepIn K (.ref f__law_off) = true)
    (c__law_plain : PySem.W.codeIn K cd__law_plain "_law_plain" = true)
    (kk__law_plain : PySem.W.keepIn K (.ref f__law_plain) = true)
    (c__law_at_once : PySem.W.codeIn K cd__law_at_once "_law_at_once" = true)
    (kk__law_at_once : PySem.W.keepIn K (.ref f__law_at_once) = true)
    (c__law_deed : PySem.W.codeIn K cd__law_deed "_law_deed" = true)
    (kk__law_deed : PySem.W.keepIn K (.ref f__law_deed) = true)
    (c__law_keeps : PySem.W.codeIn K cd__law_keeps "_law_keeps" = true)
    (kk__law_keeps : PySem.W.keepIn K (.ref f__law_keeps) = true)
    (c__law_history : PySem.W.codeIn K cd__law_history "_law_history" = true)
    (kk__law_history : PySem.W.keepIn K (.ref f__law_history) = true)
    (c__law_orders : PySem.W.codeIn K cd__law_orders "_law_orders" = true)
    (kk__law_orders : PySem.W.keepIn K (.ref f__law_orders) = true)
    (c_law : PySem.W.codeIn K cd_law "law" = true)
    (kk_law : PySem.W.keepIn K (.ref f_law) = true)
    (pg_Plain : PySem.W.plainGet K C_Plain Str.empty = true)
    (hd_Plain : PySem.W.hasDictIn K C_Plain = true)
    (po_Plain : PySem.W.plainOver K C_Plain = true)
    (sa_Plain : PySem.W.findIn K (.ref C_Plain) "__setattr__" = some (some (.builtin "object.__setattr__")))
    (kc_Plain : PySem.W.keepIn K (.ref C_Plain) = true)
    (no_Plain_0 : PySem.W.findIn K (.ref C_Plain) "many" = some none)
    (no_Plain_1 : PySem.W.findIn K (.ref C_Plain) "counted" = some none)
    (no_Plain_2 : PySem.W.findIn K (.ref C_Plain) "cells" = some none)
    (no_Plain_3 : PySem.W.findIn K (.ref C_Plain) "sums" = some none)
    (no_Plain_4 : PySem.W.findIn K (.ref C_Plain) "tops" = some none)
    (no_Plain_5 : PySem.W.findIn K (.ref C_Plain) "line" = some none)
    (mk_Plain : PySem.W.makesIn K C_Plain = true)
    (if_Plain : PySem.W.isFn K (.ref f_Plain_init) = true)
    (mf_Plain_done : PySem.W.isFn K (.ref f_Plain_done) = true)
    (mf_Plain_changed : PySem.W.isFn K (.ref f_Plain_changed) = true)
    (mf_Plain_state : PySem.W.isFn K (.ref f_Plain_state) = true)
    (mf_Plain_twin : PySem.W.isFn K (.ref f_Plain_twin) = true)
    (pg_Search : PySem.W.plainGet K C_Search Str.empty = true)
    (hd_Search : PySem.W.hasDictIn K C_Search = true)
    (po_Search : PySem.W.plainOver K C_Search = true)
    (sa_Search : PySem.W.findIn K (.ref C_Search) "__setattr__" = some (some (.builtin "object.__setattr__")))
    (kc_Search : PySem.W.keepIn K (.ref C_Search) = true)
    (no_Search_0 : PySem.W.findIn K (.ref C_Search) "told" = some none)
    (no_Search_1 : PySem.W.findIn K (.ref C_Search) "many" = some none)
    (no_Search_2 : PySem.W.findIn K (.ref C_Search) "dead" = some none)
    (mk_Search : PySem.W.makesIn K C_Search = true)
    (if_Search : PySem.W.isFn K (.ref f_Search_init) = true)
    (mf_Search_first_ones : PySem.W.isFn K (.ref f_Search_first_ones) = true)
    (mf_Search_tried : PySem.W.isFn K (.ref f_Search_tried) = true)
    (k_HandsError : PySem.W.keepIn K (.ref e_HandsError) = true)
    (x_HandsError : PySem.W.excIn K e_HandsError [.type "ValueError", .type "Exception", .type "BaseException", .type "object"] "ValueError.__new__" = true)
    (xb_HandsError : PySem.W.subIn K (.ref e_HandsError) (.type "BaseException") = some true)
    (xt_HandsError : PySem.W.typeIn K (.ref e_HandsError) = some (.type "type"))
    (k_NoDeed : PySem.W.keepIn K (.ref e_NoDeed) = true)
    (x_NoDeed : PySem.W.excIn K e_NoDeed [.type "ValueError", .type "Exception", .type "BaseException", .type "object"] "ValueError.__new__" = true)
    (xb_NoDeed : PySem.W.subIn K (.ref e_NoDeed) (.type "BaseException") = some true)
    (xt_NoDeed : PySem.W.typeIn K (.ref e_NoDeed) = some (.type "type"))
    (z_len : PySem.W.nsIn K mainGlobals "len" = some none)
    (z_abs : PySem.W.nsIn K mainGlobals "abs" = some none)
    (z_sum : PySem.W.nsIn K mainGlobals "sum" = some none)
    (z_max : PySem.W.nsIn K mainGlobals "max" = some none)
    (z_min : PySem.W.nsIn K mainGlobals "min" = some none)
    (z_int : PySem.W.nsIn K mainGlobals "int" = some none)
    (z_isinstance : PySem.W.nsIn K mainGlobals "isinstance" = some none)
    (z_sorted : PySem.W.nsIn K mainGlobals "sorted" = some none)
    (z_list : PySem.W.nsIn K mainGlobals "list" = some none)
    (z_tuple : PySem.W.nsIn K mainGlobals "tuple" = some none)
    (z_range : PySem.W.nsIn K mainGlobals "range" = some none)
    (z_ValueError : PySem.W.nsIn K mainGlobals "ValueError" = some none)
    : ∃ fd : FuncData, (∀ (s : Shared) (v : Value), BindsTo s fd ⟨[v], []⟩ [("_law_script", v)]) ∧ ∀ base : Heap, K.In base → base.Ns mainGlobals mg → FnOk l.prog w K mg base CX0 17 fa fd ["_law_script"] (spS (S_law K)) := by
  have e : f_law = fa := Value.ref.inj (Option.some.inj ((PySem.W.mg_of X G n_f_law).symm.trans hfa))
  subst e
  let E : Env K mg := {
    i_Plain := ⟨C_Plain, ⟨pg_Plain, hd_Plain, po_Plain, sa_Plain⟩, noCons no_Plain_0 (noCons no_Plain_1 (noCons no_Plain_2 (noCons no_Plain_3 (noCons no_Plain_4 (noCons no_Plain_5 (fun _ m => nomatch m)))))), by decide +kernel, by decide⟩,
    i_Search := ⟨C_Search, ⟨pg_Search, hd_Search, po_Search, sa_Search⟩, noCons no_Search_0 (noCons no_Search_1 (noCons no_Search_2 (fun _ m => nomatch m))), by decide +kernel, by decide⟩,
    f_Plain_init := f_Plain_init,
    fd_Plain_init := (PySem.W.fnOf "__init__" "Plain.__init__" (defArgs s_Plain_init) (defBody s_Plain_init) (defScope s_Plain_init) .none kV_Plain_init dc_Plain_init pm_Plain_init an_Plain_init cd_Plain_init ct_Plain_init),
    F_Plain_init := (fun_mk (st := s_Plain_init) l_Plain_init c_Plain_init kk_Plain_init),
    b_Plain_init := ((fun_mk (st := s_Plain_init) l_Plain_init c_Plain_init kk_Plain_init).binds (ps := ["self", "many"]) fun _ _ _ _ _ _ us hl => match us, hl with | [_, _], _ => rfl),
    f_Plain_done := f_Plain_done,
    fd_Plain_done := (PySem.W.fnOf "done" "Plain.done" (defArgs s_Plain_done) (defBody s_Plain_done) (defScope s_Plain_done) .none kV_Plain_done dc_Plain_done pm_Plain_done an_Plain_done cd_Plain_done ct_Plain_done),
    F_Plain_done := (fun_mk (st := s_Plain_done) l_Plain_done c_Plain_done kk_Plain_done),
    b_Plain_done := ((fun_mk (st := s_Plain_done) l_Plain_done c_Plain_done kk_Plain_done).binds (ps := ["self", "hand", "deed"]) fun _ _ _ _ _ _ us hl => match us, hl with | [_, _, _], _ => rfl),
    f_Plain_changed := f_Plain_changed,
    fd_Plain_changed := (PySem.W.fnOf "changed" "Plain.changed" (defArgs s_Plain_changed) (defBody s_Plain_changed) (defScope s_Plain_changed) .none kV_Plain_changed dc_Plain_changed pm_Plain_changed an_Plain_changed cd_Plain_changed ct_Plain_changed),
    F_Plain_changed := (fun_mk (st := s_Plain_changed) l_Plain_changed c_Plain_changed kk_Plain_changed),
    b_Plain_changed := ((fun_mk (st := s_Plain_changed) l_Plain_changed c_Plain_changed kk_Plain_changed).binds (ps := ["self", "hand", "deed"]) fun _ _ _ _ _ _ us hl => match us, hl with | [_, _, _], _ => rfl),
    f_Plain_state := f_Plain_state,
    fd_Plain_state := (PySem.W.fnOf "state" "Plain.state" (defArgs s_Plain_state) (defBody s_Plain_state) (defScope s_Plain_state) .none kV_Plain_state dc_Plain_state pm_Plain_state an_Plain_state cd_Plain_state ct_Plain_state),
    F_Plain_state := (fun_mk (st := s_Plain_state) l_Plain_state c_Plain_state kk_Plain_state),
    b_Plain_state := ((fun_mk (st := s_Plain_state) l_Plain_state c_Plain_state kk_Plain_state).binds (ps := ["self"]) fun _ _ _ _ _ _ us hl => match us, hl with | [_], _ => rfl),
    f_Plain_twin := f_Plain_twin,
    fd_Plain_twin := (PySem.W.fnOf "twin" "Plain.twin" (defArgs s_Plain_twin) (defBody s_Plain_twin) (defScope s_Plain_twin) .none kV_Plain_twin dc_Plain_twin pm_Plain_twin an_Plain_twin cd_Plain_twin ct_Plain_twin),
    F_Plain_twin := (fun_mk (st := s_Plain_twin) l_Plain_twin c_Plain_twin kk_Plain_twin),
    b_Plain_twin := ((fun_mk (st := s_Plain_twin) l_Plain_twin c_Plain_twin kk_Plain_twin).binds (ps := ["self"]) fun _ _ _ _ _ _ us hl => match us, hl with | [_], _ => rfl),
    f_Search_init := f_Search_init,
    fd_Search_init := (PySem.W.fnOf "__init__" "Search.__init__" (defArgs s_Search_init) (defBody s_Search_init) (defScope s_Search_init) .none kV_Search_init dc_Search_init pm_Search_init an_Search_init cd_Search_init ct_Search_init),
    F_Search_init := (fun_mk (st := s_Search_init) l_Search_init c_Search_init kk_Search_init),
    b_Search_init := ((fun_mk (st := s_Search_init) l_Search_init c_Search_init kk_Search_init).binds (ps := ["self", "records", "many"]) fun _ _ _ _ _ _ us hl => match us, hl with | [_, _, _], _ => rfl),
    f_Search_first_ones := f_Search_first_ones,
    fd_Search_first_ones := (PySem.W.fnOf "first_ones" "Search.first_ones" (defArgs s_Search_first_ones) (defBody s_Search_first_ones) (defScope s_Search_first_ones) .none kV_Search_first_ones dc_Search_first_ones pm_Search_first_ones an_Search_first_ones cd_Search_first_ones ct_Search_first_ones),
    F_Search_first_ones := (fun_mk (st := s_Search_first_ones) l_Search_first_ones c_Search_first_ones kk_Search_first_ones),
    b_Search_first_ones := ((fun_mk (st := s_Search_first_ones) l_Search_first_ones c_Search_first_ones kk_Search_first_ones).binds (ps := ["self", "left"]) fun _ _ _ _ _ _ us hl => match us, hl with | [_, _], _ => rfl),
    f_Search_tried := f_Search_tried,
    fd_Search_tried := (PySem.W.fnOf "tried" "Search.tried" (defArgs s_Search_tried) (defBody s_Search_tried) (defScope s_Search_tried) .none kV_Search_tried dc_Search_tried pm_Search_tried an_Search_tried cd_Search_tried ct_Search_tried),
    F_Search_tried := (fun_mk (st := s_Search_tried) l_Search_tried c_Search_tried kk_Search_tried),
    b_Search_tried := ((fun_mk (st := s_Search_tried) l_Search_tried c_Search_tried kk_Search_tried).binds (ps := ["self", "plain", "left"]) fun _ _ _ _ _ _ us hl => match us, hl with | [_, _, _], _ => rfl),
    f_found_order := f_found_order,
    fd_found_order := (PySem.W.fnOf "found_order" "found_order" (defArgs s_found_order) (defBody s_found_order) (defScope s_found_order) .none kV_found_order dc_found_order pm_found_order an_found_order cd_found_order ct_found_order),
    F_found_order := (fun_mk (st := s_found_order) l_found_order c_found_order kk_found_order),
    b_found_order := ((fun_mk (st := s_found_order) l_found_order c_found_order kk_found_order).binds (ps := ["records", "many"]) fun _ _ _ _ _ _ us hl => match us, hl with | [_, _], _ => rfl),
    g_found_order := (PySem.W.mg_of X G n_f_found_order),
    k_found_order := kk_found_order,
    f__law_cell := f__law_cell,
    fd__law_cell := (PySem.W.fnOf "_law_cell" "_law_cell" (defArgs s__law_cell) (defBody s__law_cell) (defScope s__law_cell) .none kV__law_cell dc__law_cell pm__law_cell an__law_cell cd__law_cell ct__law_cell),
    F__law_cell := (fun_mk (st := s__law_cell) l__law_cell c__law_cell kk__law_cell),
    b__law_cell := ((fun_mk (st := s__law_cell) l__law_cell c__law_cell kk__law_cell).binds (ps := ["_law_script", "_law_k"]) fun _ _ _ _ _ _ us hl => match us, hl with | [_, _], _ => rfl),
    g__law_cell := (PySem.W.mg_of X G n_f__law_cell),
    k__law_cell := kk__law_cell,
    f__law_dice := f__law_dice,
    fd__law_dice := (PySem.W.fnOf "_law_dice" "_law_dice" (defArgs s__law_dice) (defBody s__law_dice) (defScope s__law_dice) .none kV__law_dice dc__law_dice pm__law_dice an__law_dice cd__law_dice ct__law_dice),
    F__law_dice := (fun_mk (st := s__law_dice) l__law_dice c__law_dice kk__law_dice),
    b__law_dice := ((fun_mk (st := s__law_dice) l__law_dice c__law_dice kk__law_dice).binds (ps := ["_law_script", "_law_k"]) fun _ _ _ _ _ _ us hl => match us, hl with | [_, _], _ => rfl),
    g__law_dice := (PySem.W.mg_of X G n_f__law_dice),
    k__law_dice := kk__law_dice,
    f__law_off := f__law_off,
    fd__law_off := (PySem.W.fnOf "_law_off" "_law_off" (defArgs s__law_off) (defBody s__law_off) (defScope s__law_off) .none kV__law_off dc__law_off pm__law_off an__law_off cd__law_off ct__law_off),
    F__law_off := (fun_mk (st := s__law_off) l__law_off c__law_off kk__law_off),
    b__law_off := ((fun_mk (st := s__law_off) l__law_off c__law_off kk__law_off).binds (ps := ["_law_d", "_law_most"]) fun _ _ _ _ _ _ us hl => match us, hl with | [_, _], _ => rfl),
    g__law_off := (PySem.W.mg_of X G n_f__law_off),
    k__law_off := kk__law_off,
    f__law_plain := f__law_plain,
    fd__law_plain := (PySem.W.fnOf "_law_plain" "_law_plain" (defArgs s__law_plain) (defBody s__law_plain) (defScope s__law_plain) .none kV__law_plain dc__law_plain pm__law_plain an__law_plain cd__law_plain ct__law_plain),
    F__law_plain := (fun_mk (st := s__law_plain) l__law_plain c__law_plain kk__law_plain),
    b__law_plain := ((fun_mk (st := s__law_plain) l__law_plain c__law_plain kk__law_plain).binds (ps := ["_law_many"]) fun _ _ _ _ _ _ us hl => match us, hl with | [_], _ => rfl),
    g__law_plain := (PySem.W.mg_of X G n_f__law_plain),
    k__law_plain := kk__law_plain,
    f__law_at_once := f__law_at_once,
    fd__law_at_once := (PySem.W.fnOf "_law_at_once" "_law_at_once" (defArgs s__law_at_once) (defBody s__law_at_once) (defScope s__law_at_once) .none kV__law_at_once dc__law_at_once pm__law_at_once an__law_at_once cd__law_at_once ct__law_at_once),
    F__law_at_once := (fun_mk (st := s__law_at_once) l__law_at_once c__law_at_once kk__law_at_once),
    b__law_at_once := ((fun_mk (st := s__law_at_once) l__law_at_once c__law_at_once kk__law_at_once).binds (ps := ["_law_plain_here", "_law_hand", "_law_deed_here"]) fun _ _ _ _ _ _ us hl => match us, hl with | [_, _, _], _ => rfl),
    g__law_at_once := (PySem.W.mg_of X G n_f__law_at_once),
    k__law_at_once := kk__law_at_once,
    f__law_deed := f__law_deed,
    fd__law_deed := (PySem.W.fnOf "_law_deed" "_law_deed" (defArgs s__law_deed) (defBody s__law_deed) (defScope s__law_deed) .none kV__law_deed dc__law_deed pm__law_deed an__law_deed cd__law_deed ct__law_deed),
    F__law_deed := (fun_mk (st := s__law_deed) l__law_deed c__law_deed kk__law_deed),
    b__law_deed := ((fun_mk (st := s__law_deed) l__law_deed c__law_deed kk__law_deed).binds (ps := ["_law_d", "_law_word"]) fun _ _ _ _ _ _ us hl => match us, hl with | [_, _], _ => rfl),
    g__law_deed := (PySem.W.mg_of X G n_f__law_deed),
    k__law_deed := kk__law_deed,
    f__law_keeps := f__law_keeps,
    fd__law_keeps := (PySem.W.fnOf "_law_keeps" "_law_keeps" (defArgs s__law_keeps) (defBody s__law_keeps) (defScope s__law_keeps) .none kV__law_keeps dc__law_keeps pm__law_keeps an__law_keeps cd__law_keeps ct__law_keeps),
    F__law_keeps := (fun_mk (st := s__law_keeps) l__law_keeps c__law_keeps kk__law_keeps),
    b__law_keeps := ((fun_mk (st := s__law_keeps) l__law_keeps c__law_keeps kk__law_keeps).binds (ps := ["_law_records", "_law_order", "_law_many"]) fun _ _ _ _ _ _ us hl => match us, hl with | [_, _, _], _ => rfl),
    g__law_keeps := (PySem.W.mg_of X G n_f__law_keeps),
    k__law_keeps := kk__law_keeps,
    f__law_history := f__law_history,
    fd__law_history := (PySem.W.fnOf "_law_history" "_law_history" (defArgs s__law_history) (defBody s__law_history) (defScope s__law_history) .none kV__law_history dc__law_history pm__law_history an__law_history cd__law_history ct__law_history),
    F__law_history := (fun_mk (st := s__law_history) l__law_history c__law_history kk__law_history),
    b__law_history := ((fun_mk (st := s__law_history) l__law_history c__law_history kk__law_history).binds (ps := ["_law_d", "_law_many", "_law_words", "_law_most"]) fun _ _ _ _ _ _ us hl => match us, hl with | [_, _, _, _], _ => rfl),
    g__law_history := (PySem.W.mg_of X G n_f__law_history),
    k__law_history := kk__law_history,
    f__law_orders := f__law_orders,
    fd__law_orders := (PySem.W.fnOf "_law_orders" "_law_orders" (defArgs s__law_orders) (defBody s__law_orders) (defScope s__law_orders) .none kV__law_orders dc__law_orders pm__law_orders an__law_orders cd__law_orders ct__law_orders),
    F__law_orders := (fun_mk (st := s__law_orders) l__law_orders c__law_orders kk__law_orders),
    b__law_orders := ((fun_mk (st := s__law_orders) l__law_orders c__law_orders kk__law_orders).binds (ps := ["_law_many"]) fun _ _ _ _ _ _ us hl => match us, hl with | [_], _ => rfl),
    g__law_orders := (PySem.W.mg_of X G n_f__law_orders),
    k__law_orders := kk__law_orders,
    f_law := f_law,
    fd_law := (PySem.W.fnOf "law" "law" (defArgs s_law) (defBody s_law) (defScope s_law) .none kV_law dc_law pm_law an_law cd_law ct_law),
    F_law := (fun_mk (st := s_law) l_law c_law kk_law),
    b_law := ((fun_mk (st := s_law) l_law c_law kk_law).binds (ps := ["_law_script"]) fun _ _ _ _ _ _ us hl => match us, hl with | [_], _ => rfl),
    g_law := (PySem.W.mg_of X G n_f_law),
    k_law := kk_law,
    g_Plain := (PySem.W.mg_of X G n_c_Plain),
    mk_Plain := ⟨mk_Plain, mi_Plain, if_Plain, kc_Plain⟩,
    m_Plain_done := ⟨ma_Plain_done, mf_Plain_done, kk_Plain_done⟩,
    m_Plain_changed := ⟨ma_Plain_changed, mf_Plain_changed, kk_Plain_changed⟩,
    m_Plain_state := ⟨ma_Plain_state, mf_Plain_state, kk_Plain_state⟩,
    m_Plain_twin := ⟨ma_Plain_twin, mf_Plain_twin, kk_Plain_twin⟩,
    g_Search := (PySem.W.mg_of X G n_c_Search),
    mk_Search := ⟨mk_Search, mi_Search, if_Search, kc_Search⟩,
    m_Search_first_ones := ⟨ma_Search_first_ones, mf_Search_first_ones, kk_Search_first_ones⟩,
    m_Search_tried := ⟨ma_Search_tried, mf_Search_tried, kk_Search_tried⟩,
    e_HandsError := e_HandsError,
    g_HandsError := (PySem.W.mg_of X G n_e_HandsError),
    k_HandsError := k_HandsError,
    x_HandsError := x_HandsError,
    xb_HandsError := xb_HandsError,
    xt_HandsError := xt_HandsError,
    e_NoDeed := e_NoDeed,
    g_NoDeed := (PySem.W.mg_of X G n_e_NoDeed),
    k_NoDeed := k_NoDeed,
    x_NoDeed := x_NoDeed,
    xb_NoDeed := xb_NoDeed,
    xt_NoDeed := xt_NoDeed,
    gt_MOST_RECORDS := gt_MOST_RECORDS,
    g_MOST_RECORDS := (PySem.W.mg_of X G n_k_MOST_RECORDS),
    bn_len := (PySem.W.mg_none_of X G z_len),
    bn_abs := (PySem.W.mg_none_of X G z_abs),
    bn_sum := (PySem.W.mg_none_of X G z_sum),
    bn_max := (PySem.W.mg_none_of X G z_max),
    bn_min := (PySem.W.mg_none_of X G z_min),
    bn_int := (PySem.W.mg_none_of X G z_int),
    bn_isinstance := (PySem.W.mg_none_of X G z_isinstance),
    bn_sorted := (PySem.W.mg_none_of X G z_sorted),
    bn_list := (PySem.W.mg_none_of X G z_list),
    bn_tuple := (PySem.W.mg_none_of X G z_tuple),
    bn_range := (PySem.W.mg_none_of X G z_range),
    bn_ValueError := (PySem.W.mg_none_of X G z_ValueError) }
  exact ⟨E.fd_law, fun s v => .of_eq rfl, fun base _ _ => ok_law E⟩
theorem walk {l : PySem.W.OpenLaw} {q : Program} {loose : List Str} {XP : (Str → Option Value) → Heap → Prop} {YP : World → Heap → Prop} {d : DefRec} {K : Params → PySem.W.Frag} (hn : l.most = some 63) (hdf : d.params.defaults = [])
    (hY : ∀ (w : World) (h : Heap), YP w h → (K w.params).In h)
    (F : ∀ (w : World) (mg : Str → Option Value) (fa : Addr) (h : Heap), (K w.params).In h → h.Ns mainGlobals mg → mg d.name = some (.ref fa) →
      ∃ fd : FuncData, (∀ (s : Shared) (u : Value), BindsTo s fd ⟨[u], []⟩ [("_law_script", u)]) ∧ ∀ base : Heap, (K w.params).In base → base.Ns mainGlobals mg → FnOk l.prog w (K w.params) mg base CX0 17 fa fd ["_law_script"] (spS (S_law (K w.params)))) :
    PySem.W.WalkO q loose XP YP l.row.toRowW d [] (fun f vs => PySem.call f vs) :=
  L2.walk_of (n := 63) (k := 17) (x := "_law_script") (CX := fun _ => CX0) (sp := fun w => spS (S_law (K w.params))) hn (by decide) hdf ⟨rfl, by decide, by decide⟩ hY F (fun _ _ a ns hl _ hS => ⟨_, fun v _ => v = .bl true, Sat.scr hS, ⟨a, ns, rfl, rfl, hl, fun _ => rfl⟩, fun _ _ _ e _ => e⟩) fun _ _ _ _ _ z => z
end My
open PySem PySem.W PyProof.Rows
set_option maxRecDepth 100000 in
set_option maxHeartbeats 0 in
theorem PySem.Challenge.cw_stillhands_k25_whole_none_where_there_is_holds : PySem.Challenge.rw_stillhands_k25_whole_none_where_there_is.Holds := by
  w_on; o_law; k_head; (case hw => w_witness2)
  k_fill
  refine My.walk (l := PySem.Challenge.rw_stillhands_k25_whole_none_where_there_is) rfl rfl (fun w h Y => PySem.W.kIn_of Y) ?F
  case F =>
    intro w mg fa h KX G hmg
    refine' My.all_mk KX G hmg ?n_f_found_order ?n_f__law_cell ?n_f__law_dice ?n_f__law_off ?n_f__law_plain ?n_f__law_at_once ?n_f__law_deed ?n_f__law_keeps ?n_f__law_history ?n_f__law_orders ?n_f_law ?n_c_Plain ?n_c_Search ?n_e_HandsError ?n_e_NoDeed ?n_k_MOST_RECORDS ?mi_Plain ?ma_Plain_done ?ma_Plain_changed ?ma_Plain_state ?ma_Plain_twin ?mi_Search ?ma_Search_first_ones ?ma_Search_tried ?l_Plain_init ?l_Plain_done ?l_Plain_changed ?l_Plain_state ?l_Plain_twin ?l_Search_init ?l_Search_first_ones ?l_Search_tried ?l_found_order ?l__law_cell ?l__law_dice ?l__law_off ?l__law_plain ?l__law_at_once ?l__law_deed ?l__law_keeps ?l__law_history ?l__law_orders ?l_law ?c_Plain_init ?kk_Plain_init ?c_Plain_done ?kk_Plain_done ?c_Plain_changed ?kk_Plain_changed ?c_Plain_state ?kk_Plain_state ?c_Plain_twin ?kk_Plain_twin ?c_Search_init ?kk_Search_init ?c_Search_first_ones ?kk_Search_first_ones ?c_Search_tried ?kk_Search_tried ?c_found_order ?kk_found_order ?c__law_cell ?kk__law_cell ?c__law_dice ?kk__law_dice ?c__law_off ?kk__law_off ?c__law_plain ?kk__law_plain ?c__law_at_once ?kk__law_at_once ?c__law_deed ?kk__law_deed ?c__law_keeps ?kk__law_keeps ?c__law_history ?kk__law_history ?c__law_orders ?kk__law_orders ?c_law ?kk_law ?pg_Plain ?hd_Plain ?po_Plain ?sa_Plain ?kc_Plain ?no_Plain_0 ?no_Plain_1 ?no_Plain_2 ?no_Plain_3 ?no_Plain_4 ?no_Plain_5 ?mk_Plain ?if_Plain ?mf_Plain_done ?mf_Plain_changed ?mf_Plain_state ?mf_Plain_twin ?pg_Search ?hd_Search ?po_Search ?sa_Search ?kc_Search ?no_Search_0 ?no_Search_1 ?no_Search_2 ?mk_Search ?if_Search ?mf_Search_first_ones ?mf_Search_tried ?k_HandsError ?x_HandsError ?xb_HandsError ?xt_HandsError ?k_NoDeed ?x_NoDeed ?xb_NoDeed ?xt_NoDeed ?z_len ?z_abs ?z_sum ?z_max ?z_min ?z_int ?z_isinstance ?z_sorted ?z_list ?z_tuple ?z_range ?z_ValueError
    (case n_f_found_order => k_is)
    (case n_f__law_cell => k_is)
    (case n_f__law_dice => k_is)
    (case n_f__law_off => k_is)
    (case n_f__law_plain => k_is)
    (case n_f__law_at_once => k_is)
    (case n_f__law_deed => k_is)
    (case n_f__law_keeps => k_is)
    (case n_f__law_history => k_is)
    (case n_f__law_orders => k_is)
    (case n_f_law => k_is)
    (case n_c_Plain => k_is)
    (case n_c_Search => k_is)
    (case n_e_HandsError => k_is)
    (case n_e_NoDeed => k_is)
    (case n_k_MOST_RECORDS => k_is)
    (case mi_Plain => k_is)
    (case ma_Plain_done => k_is)
    (case ma_Plain_changed => k_is)
    (case ma_Plain_state => k_is)
    (case ma_Plain_twin => k_is)
    (case mi_Search => k_is)
    (case ma_Search_first_ones => k_is)
    (case ma_Search_tried => k_is)
    (case l_Plain_init => k_is)
    (case l_Plain_done => k_is)
    (case l_Plain_changed => k_is)
    (case l_Plain_state => k_is)
    (case l_Plain_twin => k_is)
    (case l_Search_init => k_is)
    (case l_Search_first_ones => k_is)
    (case l_Search_tried => k_is)
    (case l_found_order => k_is)
    (case l__law_cell => k_is)
    (case l__law_dice => k_is)
    (case l__law_off => k_is)
    (case l__law_plain => k_is)
    (case l__law_at_once => k_is)
    (case l__law_deed => k_is)
    (case l__law_keeps => k_is)
    (case l__law_history => k_is)
    (case l__law_orders => k_is)
    (case l_law => k_is)
    (case c_Plain_init => k_is)
    (case kk_Plain_init => k_is)
    (case c_Plain_done => k_is)
    (case kk_Plain_done => k_is)
    (case c_Plain_changed => k_is)
    (case kk_Plain_changed => k_is)
    (case c_Plain_state => k_is)
    (case kk_Plain_state => k_is)
    (case c_Plain_twin => k_is)
    (case kk_Plain_twin => k_is)
    (case c_Search_init => k_is)
    (case kk_Search_init => k_is)
    (case c_Search_first_ones => k_is)
    (case kk_Search_first_ones => k_is)
    (case c_Search_tried => k_is)
    (case kk_Search_tried => k_is)
    (case c_found_order => k_is)
    (case kk_found_order => k_is)
    (case c__law_cell => k_is)
    (case kk__law_cell => k_is)
    (case c__law_dice => k_is)
    (case kk__law_dice => k_is)
    (case c__law_off => k_is)
    (case kk__law_off => k_is)
    (case c__law_plain => k_is)
    (case kk__law_plain => k_is)
    (case c__law_at_once => k_is)
    (case kk__law_at_once => k_is)
    (case c__law_deed => k_is)
    (case kk__law_deed => k_is)
    (case c__law_keeps => k_is)
    (case kk__law_keeps => k_is)
    (case c__law_history => k_is)
    (case kk__law_history => k_is)
    (case c__law_orders => k_is)
    (case kk__law_orders => k_is)
    (case c_law => k_is)
    (case kk_law => k_is)
    (case pg_Plain => k_is)
    (case hd_Plain => k_is)
    (case po_Plain => k_is)
    (case sa_Plain => k_is)
    (case kc_Plain => k_is)
    (case no_Plain_0 => k_is)
    (case no_Plain_1 => k_is)
    (case no_Plain_2 => k_is)
    (case no_Plain_3 => k_is)
    (case no_Plain_4 => k_is)
    (case no_Plain_5 => k_is)
    (case mk_Plain => k_is)
    (case if_Plain => k_is)
    (case mf_Plain_done => k_is)
    (case mf_Plain_changed => k_is)
    (case mf_Plain_state => k_is)
    (case mf_Plain_twin => k_is)
    (case pg_Search => k_is)
    (case hd_Search => k_is)
    (case po_Search => k_is)
    (case sa_Search => k_is)
    (case kc_Search => k_is)
    (case no_Search_0 => k_is)
    (case no_Search_1 => k_is)
    (case no_Search_2 => k_is)
    (case mk_Search => k_is)
    (case if_Search => k_is)
    (case mf_Search_first_ones => k_is)
    (case mf_Search_tried => k_is)
    (case k_HandsError => k_is)
    (case x_HandsError => k_exc)
    (case xb_HandsError => k_is)
    (case xt_HandsError => k_is)
    (case k_NoDeed => k_is)
    (case x_NoDeed => k_exc)
    (case xb_NoDeed => k_is)
    (case xt_NoDeed => k_is)
    (case z_len => k_is)
    (case z_abs => k_is)
    (case z_sum => k_is)
    (case z_max => k_is)
    (case z_min => k_is)
    (case z_int => k_is)
    (case z_isinstance => k_is)
    (case z_sorted => k_is)
    (case z_list => k_is)
    (case z_tuple => k_is)
    (case z_range => k_is)
    (case z_ValueError => k_is)

