import PyProof.Rows.All
import Wide.All
import OpenK.AllK
import Wide.FinOn
import HandS.ForMost
import HandS.Exc
import HandS.ExcOwn
import HandS.WordsExc
import HandS.TryOnly
import HandS.SortInts
import HandS.Conv
import HandS.RevRange
import HandS.IsInst
import HandS.TupAny
import HandS.Zip
import HandS.Rev
import HandS.Evl
import HandS.ExcIs
import HandS.RevTup
import HandS.More
import HandS.TupMul
import HandS.ClsMeth
import HandS.FromBytesMap
import HandS.TupLe
import HandS.SortKw
import KE.KMinKey
import KE.KMinBuiltin
import PySem.Challenge.RW_stillhands_k05_deeds_that_are_none
set_option Elab.async false
set_option linter.all false
set_option maxRecDepth 100000
set_option maxHeartbeats 4000000
namespace Sp
open PySem L2
abbrev Cell := Addr × HO
abbrev HP := List Cell → Prop
@[irreducible] def pt (a : Addr) (o : HO) : HP := fun L => L = [(a, o)]
def stars : List HP → HP
  | [] => fun L => L = []
  | p :: ps => fun L => ∃ L1 L2, L = L1 ++ L2 ∧ p L1 ∧ stars ps L2
def Own (H : Hp) (L : List Cell) : Prop := (L.map (·.1)).Nodup ∧ ∀ c ∈ L, H c.1 = some c.2
@[irreducible] def Sat (H : Hp) (ps : List HP) : Prop := ∃ L, Own H L ∧ stars ps L
@[irreducible] def pur (φ : Prop) : HP := fun L => L = [] ∧ φ
@[irreducible] def exh {α : Type} (f : α → HP) : HP := fun L => ∃ x, f x L
@[irreducible] def grp (qs : List HP) : HP := stars qs
theorem Own.perm {H : Hp} {L L' : List Cell} (p : L.Perm L') (h : Own H L) : Own H L' :=
  ⟨(p.map _).nodup_iff.mp h.1, fun c hc => h.2 c (p.mem_iff.mpr hc)⟩
theorem stars_perm {ps ps' : List HP} (p : ps.Perm ps') : ∀ {L}, stars ps L → ∃ L', L.Perm L' ∧ stars ps' L' := by
  induction p with
  | nil => intro L h; exact ⟨L, .refl _, h⟩
  | cons x _ ih =>
    rintro L ⟨L1, L2, rfl, h1, h2⟩
    obtain ⟨L', p', h'⟩ := ih h2
    exact ⟨L1 ++ L', p'.append_left L1, L1, L', rfl, h1, h'⟩
  | swap x y l =>
    rintro L ⟨L1, L2, rfl, h1, L3, L4, rfl, h2, h3⟩
    refine ⟨L3 ++ (L1 ++ L4), ?_, L3, L1 ++ L4, rfl, h2, L1, L4, rfl, h1, h3⟩
    rw [← List.append_assoc, ← List.append_assoc]
    exact (List.perm_append_comm).append_right L4
  | trans _ _ ih1 ih2 =>
    intro L h
    obtain ⟨L1, p1, h1⟩ := ih1 h
    obtain ⟨L2, p2, h2⟩ := ih2 h1
    exact ⟨L2, p1.trans p2, h2⟩
theorem stars_mem {p : HP} {ps : List HP} (m : p ∈ ps) : ∀ {L}, stars ps L → ∃ L1, p L1 ∧ ∀ c ∈ L1, c ∈ L := by
  induction m with
  | head r => rintro L ⟨L1, L2, rfl, h1, _⟩; exact ⟨L1, h1, fun c hc => List.mem_append_left _ hc⟩
  | tail b m ih =>
    rintro L ⟨L1, L2, rfl, _, h2⟩
    obtain ⟨L3, h3, k⟩ := ih h2
    exact ⟨L3, h3, fun c hc => List.mem_append_right _ (k c hc)⟩
theorem stars_append {ps qs : List HP} : ∀ {L}, stars (ps ++ qs) L ↔ ∃ L1 L2, L = L1 ++ L2 ∧ stars ps L1 ∧ stars qs L2 := by
  induction ps with
  | nil =>
    intro L
    constructor
    · intro h; exact ⟨[], L, rfl, rfl, h⟩
    · rintro ⟨L1, L2, rfl, h1, h2⟩
      have h1 : L1 = [] := h1
      subst h1; exact h2
  | cons p ps ih =>
    intro L
    constructor
    · rintro ⟨L1, L2, rfl, h1, h2⟩
      obtain ⟨L3, L4, rfl, h3, h4⟩ := ih.mp h2
      exact ⟨L1 ++ L3, L4, (List.append_assoc _ _ _).symm, ⟨L1, L3, rfl, h1, h3⟩, h4⟩
    · rintro ⟨L1, L2, rfl, ⟨L3, L4, rfl, h3, h4⟩, h2⟩
      exact ⟨L3, L4 ++ L2, List.append_assoc _ _ _, h3, ih.mpr ⟨L4, L2, rfl, h4, h2⟩⟩
section
variable {H : Hp} {ps ps' qs R : List HP} {a : Addr} {o o' : HO}
theorem Sat.perm (p : ps.Perm ps') (h : Sat H ps) : Sat H ps' := by
  unfold Sat at *
  obtain ⟨L, hO, hL⟩ := h
  obtain ⟨L', p', h'⟩ := stars_perm p hL
  exact ⟨L', hO.perm p', h'⟩
theorem Sat.drop {p : HP} (h : Sat H (p :: ps)) : Sat H ps := by
  unfold Sat at *
  obtain ⟨L, hO, L1, L2, rfl, _, h2⟩ := h
  refine ⟨L2, ⟨?_, fun c hc => hO.2 c (List.mem_append_right _ hc)⟩, h2⟩
  have := hO.1
  rw [List.map_append] at this
  exact (List.nodup_append.mp this).2.1
theorem Sat.get (h : Sat H ps) (m : pt a o ∈ ps) : H a = some o := by
  unfold Sat at h
  obtain ⟨L, hO, hL⟩ := h
  obtain ⟨L1, h1, k⟩ := stars_mem m hL
  unfold pt at h1
  subst h1
  exact hO.2 (a, o) (k _ (List.mem_cons_self ..))
theorem Sat.pur {φ : Prop} : Sat H (pur φ :: ps) ↔ φ ∧ Sat H ps := by
  unfold Sat Sp.pur
  constructor
  · rintro ⟨L, hO, L1, L2, rfl, ⟨rfl, h1⟩, h2⟩
    exact ⟨h1, L2, hO, h2⟩
  · rintro ⟨h1, L, hO, h2⟩
    exact ⟨L, hO, [], L, rfl, ⟨rfl, h1⟩, h2⟩
theorem Sat.ex {α : Type} {f : α → HP} : Sat H (exh f :: ps) ↔ ∃ x, Sat H (f x :: ps) := by
  unfold Sat exh
  constructor
  · rintro ⟨L, hO, L1, L2, rfl, ⟨x, h1⟩, h2⟩
    exact ⟨x, _, hO, L1, L2, rfl, h1, h2⟩
  · rintro ⟨x, L, hO, L1, L2, rfl, h1, h2⟩
    exact ⟨_, hO, L1, L2, rfl, ⟨x, h1⟩, h2⟩
theorem Sat.grp : Sat H (grp qs :: ps) ↔ Sat H (qs ++ ps) := by
  unfold Sat Sp.grp
  constructor
  · rintro ⟨L, hO, L1, L2, rfl, h1, h2⟩
    exact ⟨_, hO, stars_append.mpr ⟨L1, L2, rfl, h1, h2⟩⟩
  · rintro ⟨L, hO, h⟩
    obtain ⟨L1, L2, rfl, h1, h2⟩ := stars_append.mp h
    exact ⟨_, hO, L1, L2, rfl, h1, h2⟩
theorem Sat.new (h : Sat H ps) (hp : H a = none) : Sat (upd H a o) (pt a o :: ps) := by
  unfold Sat at *
  obtain ⟨L, hO, hL⟩ := h
  have nm : ∀ c ∈ L, c.1 ≠ a := fun c hc e => by
    have := hO.2 c hc
    rw [e, hp] at this; cases this
  refine ⟨(a, o) :: L, ⟨List.nodup_cons.mpr ⟨fun m => ?_, hO.1⟩, fun c hc => ?_⟩, [(a, o)], L, rfl, by unfold pt; rfl, hL⟩
  · obtain ⟨c, hc, e⟩ := List.mem_map.mp m
    exact nm c hc e
  · rcases List.mem_cons.mp hc with e | hc
    · subst e; exact upd_same
    · rw [upd_ne (nm c hc)]; exact hO.2 c hc
theorem Sat.write (h : Sat H (pt a o :: ps)) : Sat (upd H a o') (pt a o' :: ps) := by
  unfold Sat at *
  obtain ⟨L, hO, L1, L2, rfl, h1, h2⟩ := h
  unfold pt at h1
  subst h1
  have nd : (a :: L2.map (·.1)).Nodup := hO.1
  obtain ⟨n1, n2⟩ := List.nodup_cons.mp nd
  have nm : ∀ c ∈ L2, c.1 ≠ a := fun c hc e => n1 (List.mem_map.mpr ⟨c, hc, e⟩)
  refine ⟨(a, o') :: L2, ⟨List.nodup_cons.mpr ⟨n1, n2⟩, fun c hc => ?_⟩, [(a, o')], L2, rfl, by unfold pt; rfl, h2⟩
  rcases List.mem_cons.mp hc with e | hc
  · subst e; exact upd_same
  · rw [upd_ne (nm c hc)]; exact hO.2 c (List.mem_cons_of_mem _ hc)
theorem Sat.nil : Sat H [] := by
  unfold Sat
  exact ⟨[], ⟨List.nodup_nil, fun c hc => nomatch hc⟩, rfl⟩
end
inductive Pick (c : HP) : List HP → List HP → Prop
  | hd {r : List HP} : Pick c (c :: r) r
  | tl {d : HP} {r R : List HP} (h : Pick c r R) : Pick c (d :: r) (d :: R)
theorem Pick.perm {c : HP} {ps R : List HP} (h : Pick c ps R) : ps.Perm (c :: R) := by
  induction h with
  | hd => exact .refl _
  | tl _ ih => exact (List.Perm.cons _ ih).trans (List.Perm.swap _ _ _)
theorem Pick.mem {c : HP} {ps R : List HP} (h : Pick c ps R) : c ∈ ps := h.perm.mem_iff.mpr (List.mem_cons_self ..)
inductive Picks : List HP → List HP → List HP → Prop
  | nil {ps : List HP} : Picks [] ps ps
  | cons {c : HP} {cs ps R1 R : List HP} (h : Pick c ps R1) (t : Picks cs R1 R) : Picks (c :: cs) ps R
theorem Picks.perm {cs ps R : List HP} (h : Picks cs ps R) : ps.Perm (cs ++ R) := by
  induction h with
  | nil => exact .refl _
  | cons h _ ih => exact h.perm.trans (.cons _ ih)
/-- a part replaced in its place -/
inductive Rep (c d : HP) : List HP → List HP → Prop
  | hd {r : List HP} : Rep c d (c :: r) (d :: r)
  | tl {e : HP} {r R : List HP} (h : Rep c d r R) : Rep c d (e :: r) (e :: R)
theorem Rep.two {c d : HP} {ps ps' : List HP} (h : Rep c d ps ps') : ∃ R, ps.Perm (c :: R) ∧ ps'.Perm (d :: R) := by
  induction h with
  | hd => exact ⟨_, .refl _, .refl _⟩
  | tl _ ih =>
    obtain ⟨R, p1, p2⟩ := ih
    exact ⟨_ :: R, (List.Perm.cons _ p1).trans (List.Perm.swap _ _ _), (List.Perm.cons _ p2).trans (List.Perm.swap _ _ _)⟩
theorem Rep.mem {c d : HP} {ps ps' : List HP} (h : Rep c d ps ps') : c ∈ ps := by
  obtain ⟨R, p, _⟩ := h.two
  exact p.mem_iff.mpr (List.mem_cons_self ..)
theorem Sat.rep {H : Hp} {a : Addr} {o o' : HO} {ps ps' : List HP} (h : Sat H ps) (r : Rep (pt a o) (pt a o') ps ps') : Sat (upd H a o') ps' := by
  obtain ⟨R, p, q⟩ := r.two
  exact ((h.perm p).write).perm q.symm
def Ent (ps ps' : List HP) : Prop := ∀ H, Sat H ps → Sat H ps'
theorem Ent.refl (ps : List HP) : Ent ps ps := fun _ h => h
theorem Ent.rf {ps : List HP} : Ent ps ps := fun _ h => h
theorem Ent.trans {a b c : List HP} (h : Ent a b) (k : Ent b c) : Ent a c := fun H x => k H (h H x)
theorem Ent.perm {a b : List HP} (p : a.Perm b) : Ent a b := fun _ h => h.perm p
theorem Ent.picks {cs ps R : List HP} (h : Picks cs ps R) : Ent ps (cs ++ R) := Ent.perm h.perm
theorem Ent.drop {p : HP} {ps : List HP} : Ent (p :: ps) ps := fun _ h => h.drop
theorem Ent.dropAll : ∀ {cs ps : List HP}, Ent (cs ++ ps) ps
  | [], _ => Ent.refl _
  | _ :: _, _ => Ent.drop.trans Ent.dropAll
theorem Ent.cons {p : HP} {ps ps' : List HP} (h : Ent ps ps') : Ent (p :: ps) (p :: ps') := by
  intro H x
  unfold Sat at *
  obtain ⟨L, hO, L1, L2, rfl, h1, h2⟩ := x
  have hO2 : Own H L2 := ⟨by
    have := hO.1
    rw [List.map_append] at this
    exact (List.nodup_append.mp this).2.1, fun c hc => hO.2 c (List.mem_append_right _ hc)⟩
  -- the rest holds in the heap of L2 alone
  let H2 : Hp := fun a => ((L2.find? fun c => decide (c.1 = a)).map (·.2))
  have hH2 : Own H2 L2 := ⟨hO2.1, fun c hc => by
    show ((L2.find? fun d => decide (d.1 = c.1)).map (·.2)) = some c.2
    cases e : L2.find? (fun d => decide (d.1 = c.1)) with
    | none =>
      have := List.find?_eq_none.mp e c hc
      simp at this
    | some d =>
      have h1 := List.find?_some e
      have h2 := List.mem_of_find?_eq_some e
      have h3 : d.1 = c.1 := by simpa using h1
      have e1 := hO2.2 d h2
      have e2 := hO2.2 c hc
      rw [h3, e2] at e1
      have : d.2 = c.2 := (Option.some.inj e1).symm
      simp [this]⟩
  have x2 : Sat H2 ps := by unfold Sat; exact ⟨L2, hH2, h2⟩
  have x3 := h H2 x2
  unfold Sat at x3
  obtain ⟨L3, hO3, h3⟩ := x3
  have sub : ∀ c ∈ L3, c ∈ L2 := fun c hc => by
    have e := hO3.2 c hc
    have e' : ((L2.find? fun d => decide (d.1 = c.1)).map (·.2)) = some c.2 := e
    cases e2 : L2.find? (fun d => decide (d.1 = c.1)) with
    | none => rw [e2] at e'; cases e'
    | some d =>
      rw [e2] at e'
      have m := List.mem_of_find?_eq_some e2
      have k1 : d.1 = c.1 := by simpa using List.find?_some e2
      have k2 : d.2 = c.2 := by simpa using e'
      have : d = c := Prod.ext k1 k2
      rw [← this]; exact m
  refine ⟨L1 ++ L3, ⟨?_, fun c hc => ?_⟩, L1, L3, rfl, h1, h3⟩
  · have n := hO.1
    rw [List.map_append] at n ⊢
    obtain ⟨n1, _, n3⟩ := List.nodup_append.mp n
    refine List.nodup_append.mpr ⟨n1, hO3.1, fun a ha b hb => ?_⟩
    obtain ⟨c, hc, e⟩ := List.mem_map.mp hb
    exact n3 a ha b (List.mem_map.mpr ⟨c, sub c hc, e⟩)
  · rcases List.mem_append.mp hc with m | m
    · exact hO.2 c (List.mem_append_left _ m)
    · exact hO2.2 c (sub c m)
theorem Ent.app {cs ps ps' : List HP} (h : Ent ps ps') : Ent (cs ++ ps) (cs ++ ps') := by
  induction cs with
  | nil => exact h
  | cons c cs ih => exact Ent.cons ih
theorem Ent.left {cs ds R : List HP} (h : Ent cs ds) : Ent (cs ++ R) (ds ++ R) :=
  (Ent.perm List.perm_append_comm).trans ((Ent.app h).trans (Ent.perm List.perm_append_comm))
theorem Ent.ex {α : Type} {f : α → HP} {ps : List HP} (x : α) : Ent (f x :: ps) (exh f :: ps) := fun _ h => Sat.ex.mpr ⟨x, h⟩
end Sp
set_option Elab.async false
set_option linter.all false
set_option maxRecDepth 100000
set_option maxHeartbeats 4000000
namespace Sp
open PySem L2
def We (te : TE) (σ : L2.St) (ps : List HP) (Φ : V → List HP → Prop) : Prop := ∀ (H : Hp) (Q : VK), Sat H ps → (∀ v ps' H', Φ v ps' → Sat H' ps' → Q v H') → te σ H Q
def Wt (t : TT) (σ : L2.St) (ps : List HP) (Φ : Bool → List HP → Prop) : Prop := ∀ (H : Hp) (Q : Bool → Hp → Prop), Sat H ps → (∀ v ps' H', Φ v ps' → Sat H' ps' → Q v H') → t σ H Q
def Wa (t : TA) (σ : L2.St) (ps : List HP) (Φ : List V → List HP → Prop) : Prop := ∀ (H : Hp) (Q : List V → Hp → Prop), Sat H ps → (∀ v ps' H', Φ v ps' → Sat H' ps' → Q v H') → t σ H Q
def Wo (t : TO) (σ : L2.St) (ps : List HP) (Φ : Option Int → List HP → Prop) : Prop := ∀ (H : Hp) (Q : Option Int → Hp → Prop), Sat H ps → (∀ v ps' H', Φ v ps' → Sat H' ps' → Q v H') → t σ H Q
def W1 (r : V → Hp → VK → Prop) (x : V) (ps : List HP) (Φ : V → List HP → Prop) : Prop := ∀ (H : Hp) (Q : VK), Sat H ps → (∀ v ps' H', Φ v ps' → Sat H' ps' → Q v H') → r x H Q
def W2 (r : R2) (x y : V) (ps : List HP) (Φ : V → List HP → Prop) : Prop := ∀ (H : Hp) (Q : VK), Sat H ps → (∀ v ps' H', Φ v ps' → Sat H' ps' → Q v H') → r x y H Q
def Wc (r : List V → Hp → VK → Prop) (vs : List V) (ps : List HP) (Φ : V → List HP → Prop) : Prop := ∀ (H : Hp) (Q : VK), Sat H ps → (∀ v ps' H', Φ v ps' → Sat H' ps' → Q v H') → r vs H Q
def Wm (r : V → List V → Hp → VK → Prop) (x : V) (vs : List V) (ps : List HP) (Φ : V → List HP → Prop) : Prop := ∀ (H : Hp) (Q : VK), Sat H ps → (∀ v ps' H', Φ v ps' → Sat H' ps' → Q v H') → r x vs H Q
def Wsl (r : V → Option Int → Option Int → Hp → VK → Prop) (x : V) (lo hi : Option Int) (ps : List HP) (Φ : V → List HP → Prop) : Prop := ∀ (H : Hp) (Q : VK), Sat H ps → (∀ v ps' H', Φ v ps' → Sat H' ps' → Q v H') → r x lo hi H Q
def Wg (g : TG) (v : V) (σ : L2.St) (ps : List HP) (Φ : L2.St → List HP → Prop) : Prop := ∀ (H : Hp) (Q : L2.St → Hp → Prop), Sat H ps → (∀ σ' ps' H', Φ σ' ps' → Sat H' ps' → Q σ' H') → g v σ H Q
def Wgs (g : TGs) (v : List V) (σ : L2.St) (ps : List HP) (Φ : L2.St → List HP → Prop) : Prop := ∀ (H : Hp) (Q : L2.St → Hp → Prop), Sat H ps → (∀ σ' ps' H', Φ σ' ps' → Sat H' ps' → Q σ' H') → g v σ H Q
def Wst (t : TSet) (o i v : V) (ps : List HP) (Φ : List HP → Prop) : Prop := ∀ (H : Hp) (Q : Hp → Prop), Sat H ps → (∀ ps' H', Φ ps' → Sat H' ps' → Q H') → t o i v H Q
abbrev PN := L2.St → List HP → Prop
structure Le (nx : PN) (rt : V → List HP → Prop) (bk ct : PN) (D' : Ends) : Prop where
  nx : ∀ σ ps H, nx σ ps → Sat H ps → D'.nx σ H
  rt : ∀ v ps H, rt v ps → Sat H ps → D'.rt v H
  bk : ∀ σ ps H, bk σ ps → Sat H ps → D'.bk σ H
  ct : ∀ σ ps H, ct σ ps → Sat H ps → D'.ct σ H
def Ws (t : TS) (nx : PN) (rt : V → List HP → Prop) (bk ct : PN) (σ : L2.St) (ps : List HP) : Prop := ∀ (H : Hp) (D' : Ends), Sat H ps → Le nx rt bk ct D' → t D' σ H
section
variable {te : TE} {tt : TT} {ta : TA} {ts : TS} {σ : L2.St} {ps ps' qs R : List HP} {nx : PN} {rt : V → List HP → Prop} {bk ct : PN}
theorem We.ent {Φ} (e : Ent ps ps') (h : We te σ ps' Φ) : We te σ ps Φ := fun H Q s k => h H Q (e H s) k
theorem Wt.ent {Φ} (e : Ent ps ps') (h : Wt tt σ ps' Φ) : Wt tt σ ps Φ := fun H Q s k => h H Q (e H s) k
theorem Ws.ent (e : Ent ps ps') (h : Ws ts nx rt bk ct σ ps') : Ws ts nx rt bk ct σ ps := fun H Q s k => h H Q (e H s) k
theorem W2.ent {r x y Φ} (e : Ent ps ps') (h : W2 r x y ps' Φ) : W2 r x y ps Φ := fun H Q s k => h H Q (e H s) k
theorem Ws.ex {α : Type} {f : α → HP} (h : ∀ x, Ws ts nx rt bk ct σ (f x :: ps)) : Ws ts nx rt bk ct σ (exh f :: ps) := fun H Q s k => let ⟨x, s'⟩ := Sat.ex.mp s; h x H Q s' k
theorem Ws.pur {φ : Prop} (h : φ → Ws ts nx rt bk ct σ ps) : Ws ts nx rt bk ct σ (Sp.pur φ :: ps) := fun H Q s k => let ⟨x, s'⟩ := Sat.pur.mp s; h x H Q s' k
theorem Ws.grp (h : Ws ts nx rt bk ct σ (qs ++ ps)) : Ws ts nx rt bk ct σ (Sp.grp qs :: ps) := fun H Q s k => h H Q (Sat.grp.mp s) k
/-- a fact read off the heap -/
theorem Ws.fact {φ : Prop} (f : ∀ H, Sat H ps → φ) (h : φ → Ws ts nx rt bk ct σ ps) : Ws ts nx rt bk ct σ ps := fun H Q s k => h (f H s) H Q s k
theorem We.fact {Φ} {φ : Prop} (f : ∀ H, Sat H ps → φ) (h : φ → We te σ ps Φ) : We te σ ps Φ := fun H Q s k => h (f H s) H Q s k
theorem We.mono {Φ Φ' : V → List HP → Prop} (h : We te σ ps Φ) (k : ∀ v ps, Φ v ps → Φ' v ps) : We te σ ps Φ' := fun H Q s k' => h H Q s fun v ps' H' f s' => k' v ps' H' (k v ps' f) s'
theorem Ws.mono {nx2 : PN} {rt2 : V → List HP → Prop} {bk2 ct2 : PN} (h : Ws ts nx rt bk ct σ ps) (k1 : ∀ σ ps, nx σ ps → nx2 σ ps) (k2 : ∀ v ps, rt v ps → rt2 v ps) (k3 : ∀ σ ps, bk σ ps → bk2 σ ps) (k4 : ∀ σ ps, ct σ ps → ct2 σ ps) : Ws ts nx2 rt2 bk2 ct2 σ ps :=
  fun H D' s l => h H D' s ⟨fun σ ps H x => l.nx σ ps H (k1 σ ps x), fun v ps H x => l.rt v ps H (k2 v ps x), fun σ ps H x => l.bk σ ps H (k3 σ ps x), fun σ ps H x => l.ct σ ps H (k4 σ ps x)⟩
end
structure CI (K : PySem.W.Frag) (names : List Str) where
  C : Addr
  cls : Cls K C
  no : ∀ f ∈ names, NoAttr K C f
  nd : names.Nodup
  few : names.length < 1000
/-- an instance of the class, its attributes in the order in which they were stored -/
@[irreducible] def obj {K : PySem.W.Frag} {names : List Str} (I : CI K names) (a : Addr) (fs : List (Str × V)) : HP := exh fun dx => pt a (.ins I.C dx fs)
theorem lookup_of : ∀ {fs : List (Str × V)} {f : Str} {v : V}, (fs.map (·.1)).Nodup → (f, v) ∈ fs → fs.lookup f = some v
  | [], _, _, _, m => nomatch m
  | (g, x) :: r, f, v, nd, m => by
    have nd' : (g :: r.map (·.1)).Nodup := nd
    obtain ⟨n1, n2⟩ := List.nodup_cons.mp nd'
    rcases List.mem_cons.mp m with e | m2
    · cases e
      rw [List.lookup_cons]
      simp
    · have hne : (f == g) = false := by
        rw [beq_eq_false_iff_ne]
        rintro rfl
        exact n1 (List.mem_map.mpr ⟨(f, v), m2, rfl⟩)
      rw [List.lookup_cons, hne]
      exact lookup_of n2 m2
theorem lookup_not : ∀ {fs : List (Str × V)} {f : Str}, f ∉ fs.map (·.1) → fs.lookup f = none
  | [], _, _ => rfl
  | (g, x) :: r, f, n => by
    have hne : (f == g) = false := by
      rw [beq_eq_false_iff_ne]
      rintro rfl
      exact n (List.mem_map.mpr ⟨(f, x), List.mem_cons_self .., rfl⟩)
    rw [List.lookup_cons, hne]
    exact lookup_not fun m => n (List.mem_cons_of_mem _ m)
/-- an attribute stored: in its place, or at the end -/
inductive FPut (f : Str) (y : V) : List (Str × V) → List (Str × V) → Prop
  | hd {x : V} {r : List (Str × V)} : FPut f y ((f, x) :: r) ((f, y) :: r)
  | tl {g : Str} {x : V} {r r' : List (Str × V)} (h : FPut f y r r') : FPut f y ((g, x) :: r) ((g, x) :: r')
  | new : FPut f y [] [(f, y)]
theorem FPut.eq {f : Str} {y : V} {fs fs' : List (Str × V)} (h : FPut f y fs fs') (nd : (fs'.map (·.1)).Nodup) : putF f y fs = fs' := by
  induction h with
  | hd => unfold putF; rw [if_pos rfl]
  | @tl g x r r' h ih =>
    have nd' : (g :: r'.map (·.1)).Nodup := nd
    obtain ⟨n1, n2⟩ := List.nodup_cons.mp nd'
    have hm : f ∈ r'.map (·.1) := by
      clear ih n1 n2 nd nd'
      induction h with
      | hd => exact List.mem_cons_self ..
      | tl _ ih => exact List.mem_cons_of_mem _ ih
      | new => exact List.mem_cons_self ..
    unfold putF
    rw [if_neg (by rintro rfl; exact n1 hm), ih n2]
  | new => rfl
theorem nodup_pre {a b c : List Str} (e : a ++ b = c) (h : c.Nodup) : a.Nodup := by
  subst e; exact (List.nodup_append.mp h).1
section
variable {K : PySem.W.Frag} {names : List Str} {I : CI K names} {te ta tb tv : TE} {t u : TT} {tr : TA} {σ : L2.St} {ps ps' ps1 R : List HP} {Φ : V → List HP → Prop} {x y v : V} {a : Addr} {fs fs' : List (Str × V)} {f : Str} {nx : PN} {rt : V → List HP → Prop} {bk ct : PN} {ts tz tu : TS}
theorem Sat.obj {H : Hp} (s : Sat H ps) (m : Sp.obj I a fs ∈ ps) : ∃ dx, H a = some (.ins I.C dx fs) := by
  unfold Sat at s
  obtain ⟨L, hO, hL⟩ := s
  obtain ⟨L1, h1, k⟩ := stars_mem m hL
  unfold Sp.obj exh pt at h1
  obtain ⟨dx, rfl⟩ := h1
  exact ⟨dx, hO.2 (a, _) (k _ (List.mem_cons_self ..))⟩
theorem Sat.objRep {H : Hp} (s : Sat H ps) (r : Rep (Sp.obj I a fs) (Sp.obj I a fs') ps ps') : ∃ dx, H a = some (.ins I.C dx fs) ∧ Sat (upd H a (.ins I.C dx fs')) ps' := by
  obtain ⟨R, p, q⟩ := r.two
  have s1 := s.perm p
  unfold Sp.obj at s1
  obtain ⟨dx, s2⟩ := Sat.ex.mp s1
  refine ⟨dx, s2.get (List.mem_cons_self ..), Sat.perm q.symm ?_⟩
  unfold Sp.obj
  exact Sat.ex.mpr ⟨dx, s2.write⟩
theorem we_var {i : Nat} (h : σ[i]? = some (some v)) (k : Φ v ps) : We (tVar i) σ ps Φ := fun H Q s q => ⟨v, h, q _ _ _ k s⟩
theorem we_c (k : Φ v ps) : We (tC v) σ ps Φ := fun H Q s q => q _ _ _ k s
/-- attribute f of the object at a reads v -/
def RF (K : PySem.W.Frag) (H : Hp) (a : Addr) (f : Str) (v : V) : Prop := ∃ C dx fs, H a = some (.ins C dx fs) ∧ Cls K C ∧ NoAttr K C f ∧ fs.lookup f = some v
/-- .. as the parts say it, opened or not -/
def FldG (K : PySem.W.Frag) (x : V) (f : Str) (ps : List HP) (Φ : V → List HP → Prop) : Prop := ∀ H, Sat H ps → ∃ ps2 a v, Sat H ps2 ∧ x = .ref a ∧ RF K H a f v ∧ Φ v ps2
/-- read off, the parts as they stand -/
def RdF (K : PySem.W.Frag) (ps : List HP) (a : Addr) (f : Str) (v : V) : Prop := ∀ H, Sat H ps → RF K H a f v
theorem fldG_ro (h : RdF K ps a f v) (k : Φ v ps) : FldG K (.ref a) f ps Φ := fun H s => ⟨ps, a, v, s, rfl, h H s, k⟩
theorem FldG.ent (e : Ent ps ps') (h : FldG K x f ps' Φ) : FldG K x f ps Φ := fun H s => h H (e H s)
theorem FldG.open {α : Type} {g : α → List HP} (e : ∀ H, Sat H ps → ∃ z, Sat H (g z)) (h : ∀ z, FldG K x f (g z) Φ) : FldG K x f ps Φ := fun H s => let ⟨z, s'⟩ := e H s; h z H s'
theorem Sat.rf {r : List Str} {H : Hp} (s : Sat H ps) (m : Sp.obj I a fs ∈ ps) (p : fs.map (·.1) ++ r = names) (q : (f, v) ∈ fs) : RF K H a f v := by
  obtain ⟨dx, e⟩ := s.obj m
  exact ⟨I.C, dx, fs, e, I.cls, I.no f (by rw [← p]; exact List.mem_append_left _ (List.mem_map.mpr ⟨_, q, rfl⟩)), lookup_of (nodup_pre p I.nd) q⟩
theorem fldG {r : List Str} (m : obj I a fs ∈ ps) (p : fs.map (·.1) ++ r = names) (q : (f, v) ∈ fs) (k : Φ v ps) : FldG K (.ref a) f ps Φ := fun H s => ⟨ps, a, v, s, rfl, s.rf m p q, k⟩
theorem we_fld (h : We ta σ ps fun x ps1 => FldG K x f ps1 Φ) : We (tFld K ta f) σ ps Φ := by
  intro H Q s q
  refine h H _ s fun x ps1 H1 g s1 => ?_
  obtain ⟨ps2, a, v, s2, rfl, ⟨C, dx, fs, e1, e2, e3, e4⟩, k⟩ := g H1 s1
  exact ⟨a, C, dx, fs, v, rfl, e1, e2, e3, e4, q _ _ _ k s2⟩
def FldS0 (K : PySem.W.Frag) (x : V) (f : Str) (y : V) (ps : List HP) (k : List HP → Prop) : Prop := ∃ (names : List Str) (I : CI K names) (a : Addr) (fs fs' : List (Str × V)) (r : List Str) (ps' : List HP), x = .ref a ∧ FPut f y fs fs' ∧ fs'.map (·.1) ++ r = names ∧ Rep (obj I a fs) (obj I a fs') ps ps' ∧ k ps'
def FldS (K : PySem.W.Frag) (x : V) (f : Str) (y : V) (ps : List HP) (k : List HP → Prop) : Prop := ∀ H, Sat H ps → ∃ ps2, Sat H ps2 ∧ FldS0 K x f y ps2 k
theorem FldS.ent {k : List HP → Prop} (e : Ent ps ps') (h : FldS K x f y ps' k) : FldS K x f y ps k := fun H s => h H (e H s)
theorem FldS.open {α : Type} {g : α → List HP} {k : List HP → Prop} (e : ∀ H, Sat H ps → ∃ z, Sat H (g z)) (h : ∀ z, FldS K x f y (g z) k) : FldS K x f y ps k := fun H s => let ⟨z, s'⟩ := e H s; h z H s'
theorem fldS {r : List Str} {k : List HP → Prop} {fs' : List (Str × V)} (m : obj I a fs ∈ ps) (w : FPut f y fs fs') (p : fs'.map (·.1) ++ r = names) (h : Rep (obj I a fs) (obj I a fs') ps ps') (q : k ps') : FldS K (.ref a) f y ps k := fun H s => ⟨ps, s, _, I, a, fs, fs', r, ps', rfl, w, p, h, q⟩
theorem FPut.len {f : Str} {y : V} {fs fs' : List (Str × V)} (h : FPut f y fs fs') : fs.length ≤ fs'.length := by
  induction h with
  | hd => simp
  | tl _ ih => simpa using ih
  | new => simp
theorem FPut.mem {f : Str} {y : V} {fs fs' : List (Str × V)} (h : FPut f y fs fs') : f ∈ fs'.map (·.1) := by
  induction h with
  | hd => exact List.mem_cons_self ..
  | tl _ ih => exact List.mem_cons_of_mem _ ih
  | new => exact List.mem_cons_self ..
theorem ws_fld (h : We tv σ ps fun y ps1 => We ta σ ps1 fun x ps2 => FldS K x f y ps2 (nx σ)) : Ws (sFld K ta tv f) nx rt bk ct σ ps := by
  intro H D' s l
  refine h H _ s fun y ps1 H1 h1 s1 => ?_
  refine h1 H1 _ s1 fun x ps2 H2 g s2 => ?_
  obtain ⟨ps2, s2, names, I, a, fs, fs', r, ps', rfl, w, p, rep, k⟩ := g H2 s2
  obtain ⟨dx, e, s3⟩ := s2.objRep rep
  have lt : fs.length < 1000 := by
    have h1 := w.len
    have h2 : fs'.length ≤ names.length := by rw [← p]; simp
    exact Nat.lt_of_le_of_lt (Nat.le_trans h1 h2) I.few
  refine ⟨a, I.C, dx, fs, rfl, e, I.cls, I.no f (by rw [← p]; exact List.mem_append_left _ w.mem), lt, ?_⟩
  rw [w.eq (nodup_pre p I.nd)]
  exact l.nx _ _ _ k s3
theorem we_op {r : R2} (h : We ta σ ps fun x ps1 => We tb σ ps1 fun y ps2 => W2 r x y ps2 Φ) : We (tOp r ta tb) σ ps Φ := fun H Q s q =>
  h H _ s fun x ps1 H1 h1 s1 => h1 H1 _ s1 fun y ps2 H2 h2 s2 => h2 H2 Q s2 q
theorem we_un {r : V → Hp → VK → Prop} (h : We ta σ ps fun x ps1 => W1 r x ps1 Φ) : We (tUn r ta) σ ps Φ := fun H Q s q =>
  h H _ s fun x ps1 H1 h1 s1 => h1 H1 Q s1 q
theorem w2_I0 {g : Int → Int → V} {i j : Int} (k : Φ (g i j) ps) : W2 (rI0 g) (.int i) (.int j) ps Φ := fun H Q s q => ⟨i, j, rfl, rfl, q _ _ _ k s⟩
theorem w2_I {C : Int → Int → Prop} {g : Int → Int → V} {i j : Int} (c : C i j) (k : Φ (g i j) ps) : W2 (rI C g) (.int i) (.int j) ps Φ := fun H Q s q => ⟨i, j, rfl, rfl, c, q _ _ _ k s⟩
theorem w1_U {g : Int → V} {i : Int} (k : Φ (g i) ps) : W1 (rU g) (.int i) ps Φ := fun H Q s q => ⟨i, rfl, q _ _ _ k s⟩
theorem w2_eq (c : scal x y = true) (k : Φ (.bl (decide (x = y))) ps) : W2 rEq x y ps Φ := fun H Q s q => ⟨c, q _ _ _ k s⟩
theorem w2_ne (c : scal x y = true) (k : Φ (.bl (!decide (x = y))) ps) : W2 rNe x y ps Φ := fun H Q s q => ⟨c, q _ _ _ k s⟩
theorem we_eqN (h : We ta σ ps fun x ps1 => Φ (.bl (decide (x = .non))) ps1) : We (tIsN ta) σ ps Φ := fun H Q s q => h H _ s fun x ps1 H1 k s1 => q _ _ _ k s1
theorem we_neN (h : We ta σ ps fun x ps1 => Φ (.bl (!decide (x = .non))) ps1) : We (tNotN ta) σ ps Φ := fun H Q s q => h H _ s fun x ps1 H1 k s1 => q _ _ _ k s1
def BoolG (x : V) (ps : List HP) (Φ : Bool → List HP → Prop) : Prop := ∃ c, x = .bl c ∧ Φ c ps
theorem boolG {c : Bool} {Φ : Bool → List HP → Prop} (k : Φ c ps) : BoolG (.bl c) ps Φ := ⟨c, rfl, k⟩
theorem wt_test {Φ : Bool → List HP → Prop} (h : We te σ ps fun x ps1 => BoolG x ps1 Φ) : Wt (tTest te) σ ps Φ := fun H Q s q =>
  h H _ s fun x ps1 H1 ⟨c, e, k⟩ s1 => ⟨c, e, q _ _ _ k s1⟩
theorem wt_B {Φ : Bool → List HP → Prop} (h : We te σ ps fun x ps1 => BoolG x ps1 Φ) : Wt (tB te) σ ps Φ := fun H Q s q =>
  h H _ s fun x ps1 H1 ⟨c, e, k⟩ s1 => ⟨c, e, q _ _ _ k s1⟩
theorem wt_not {Φ : Bool → List HP → Prop} (h : Wt t σ ps fun c ps1 => Φ (!c) ps1) : Wt (tNot t) σ ps Φ := fun H Q s q => h H _ s fun c ps1 H1 k s1 => q _ _ _ k s1
theorem wt_and {Φ : Bool → List HP → Prop} (h : Wt t σ ps fun c ps1 => if c = true then Wt u σ ps1 Φ else Φ false ps1) : Wt (tAnd t u) σ ps Φ := fun H Q s q =>
  h H _ s fun c ps1 H1 k s1 => by
    cases c with
    | true => rw [if_pos rfl] at k ⊢; exact k H1 Q s1 q
    | false => rw [if_neg Bool.false_ne_true] at k ⊢; exact q _ _ _ k s1
theorem wt_or {Φ : Bool → List HP → Prop} (h : Wt t σ ps fun c ps1 => if c = true then Φ true ps1 else Wt u σ ps1 Φ) : Wt (tOr t u) σ ps Φ := fun H Q s q =>
  h H _ s fun c ps1 H1 k s1 => by
    cases c with
    | true => rw [if_pos rfl] at k ⊢; exact q _ _ _ k s1
    | false => rw [if_neg Bool.false_ne_true] at k ⊢; exact k H1 Q s1 q
def ChainG (r' : R2) (y : V) (σ : L2.St) (tc : TE) (z : V) (ps : List HP) (Φ : V → List HP → Prop) : Prop := ∃ k, z = .bl k ∧ if k = true then We tc σ ps fun w ps1 => W2 r' y w ps1 Φ else Φ (.bl false) ps
theorem chainG {r' : R2} {tc : TE} {c : Bool} (k : if c = true then We tc σ ps fun w ps1 => W2 r' y w ps1 Φ else Φ (.bl false) ps) : ChainG r' y σ tc (.bl c) ps Φ := ⟨c, rfl, k⟩
theorem we_chain {r r' : R2} {tc : TE} (h : We ta σ ps fun x ps1 => We tb σ ps1 fun y ps2 => W2 r x y ps2 fun z ps3 => ChainG r' y σ tc z ps3 Φ) : We (tChain r r' ta tb tc) σ ps Φ := fun H Q s q =>
  h H _ s fun x ps1 H1 h1 s1 => h1 H1 _ s1 fun y ps2 H2 h2 s2 => h2 H2 _ s2 fun z ps3 H3 ⟨k, e, g⟩ s3 => ⟨k, e, by
    cases k with
    | true => rw [if_pos rfl] at g ⊢; exact g H3 _ s3 fun w ps4 H4 h4 s4 => h4 H4 Q s4 q
    | false => rw [if_neg Bool.false_ne_true] at g ⊢; exact q _ _ _ g s3⟩
def AndG (x : V) (tb : TE) (σ : L2.St) (ps : List HP) (Φ : V → List HP → Prop) : Prop := ∃ c, x = .bl c ∧ if c = true then We tb σ ps Φ else Φ (.bl false) ps
def OrG (x : V) (tb : TE) (σ : L2.St) (ps : List HP) (Φ : V → List HP → Prop) : Prop := ∃ c, x = .bl c ∧ if c = true then Φ (.bl true) ps else We tb σ ps Φ
theorem andG {c : Bool} (k : if c = true then We tb σ ps Φ else Φ (.bl false) ps) : AndG (.bl c) tb σ ps Φ := ⟨c, rfl, k⟩
theorem orG {c : Bool} (k : if c = true then Φ (.bl true) ps else We tb σ ps Φ) : OrG (.bl c) tb σ ps Φ := ⟨c, rfl, k⟩
theorem we_andV (h : We ta σ ps fun x ps1 => AndG x tb σ ps1 Φ) : We (tAndV ta tb) σ ps Φ := fun H Q s q =>
  h H _ s fun x ps1 H1 ⟨c, e, k⟩ s1 => ⟨c, e, by
    cases c with
    | true => rw [if_pos rfl] at k ⊢; exact k H1 Q s1 q
    | false => rw [if_neg Bool.false_ne_true] at k ⊢; exact q _ _ _ k s1⟩
theorem we_orV (h : We ta σ ps fun x ps1 => OrG x tb σ ps1 Φ) : We (tOrV ta tb) σ ps Φ := fun H Q s q =>
  h H _ s fun x ps1 H1 ⟨c, e, k⟩ s1 => ⟨c, e, by
    cases c with
    | true => rw [if_pos rfl] at k ⊢; exact q _ _ _ k s1
    | false => rw [if_neg Bool.false_ne_true] at k ⊢; exact k H1 Q s1 q⟩
theorem we_notV (h : We ta σ ps fun x ps1 => BoolG x ps1 fun c ps2 => Φ (.bl (!c)) ps2) : We (tNotV ta) σ ps Φ := fun H Q s q =>
  h H _ s fun x ps1 H1 ⟨c, e, k⟩ s1 => ⟨c, e, q _ _ _ k s1⟩
theorem ws_next (k : nx σ ps) : Ws tNext nx rt bk ct σ ps := fun H D' s l => l.nx _ _ _ k s
theorem ws_seq (h : Ws ts (fun σ' ps' => Ws tz nx rt bk ct σ' ps') rt bk ct σ ps) : Ws (tSeq ts tz) nx rt bk ct σ ps := fun H D' s l =>
  h H _ s ⟨fun σ' ps' H' k s' => k H' D' s' l, l.rt, l.bk, l.ct⟩
theorem ws_break (k : bk σ ps) : Ws tBreak nx rt bk ct σ ps := fun H D' s l => l.bk _ _ _ k s
theorem ws_cont (k : ct σ ps) : Ws tCont nx rt bk ct σ ps := fun H D' s l => l.ct _ _ _ k s
theorem ws_drop (h : We te σ ps fun _ ps1 => nx σ ps1) : Ws (tDrop te) nx rt bk ct σ ps := fun H D' s l => h H _ s fun v ps1 H1 k s1 => l.nx _ _ _ k s1
theorem ws_ret (h : We te σ ps rt) : Ws (tRet te) nx rt bk ct σ ps := fun H D' s l => h H _ s fun v ps1 H1 k s1 => l.rt _ _ _ k s1
theorem ws_retN (k : rt .non ps) : Ws tRetN nx rt bk ct σ ps := fun H D' s l => l.rt _ _ _ k s
theorem ws_if (h : Wt t σ ps fun c ps1 => if c = true then Ws ts nx rt bk ct σ ps1 else Ws tu nx rt bk ct σ ps1) : Ws (tIfS t ts tu) nx rt bk ct σ ps := fun H D' s l =>
  h H _ s fun c ps1 H1 k s1 => by
    cases c with
    | true => rw [if_pos rfl] at k ⊢; exact k H1 D' s1 l
    | false => rw [if_neg Bool.false_ne_true] at k ⊢; exact k H1 D' s1 l
theorem ws_asg {g : TG} (h : We te σ ps fun x ps1 => Wg g x σ ps1 nx) : Ws (tAsg te g) nx rt bk ct σ ps := fun H D' s l =>
  h H _ s fun x ps1 H1 k s1 => k H1 _ s1 fun σ' ps' H' k' s' => l.nx _ _ _ k' s'
theorem wg_name {i : Nat} {Φ : L2.St → List HP → Prop} (k : Φ (σ.set i (some v)) ps) : Wg (gName i) v σ ps Φ := fun H Q s q => q _ _ _ k s
theorem wg_sub {to ti : TE} {w : TSet} {Φ : L2.St → List HP → Prop} (h : We to σ ps fun o ps1 => We ti σ ps1 fun i ps2 => Wst w o i v ps2 fun ps3 => Φ σ ps3) : Wg (gSub to ti w) v σ ps Φ := fun H Q s q =>
  h H _ s fun o ps1 H1 h1 s1 => h1 H1 _ s1 fun i ps2 H2 h2 s2 => h2 H2 _ s2 fun ps3 H3 k s3 => q _ _ _ k s3
theorem wgs_nil {Φ : L2.St → List HP → Prop} (k : Φ σ ps) : Wgs gNil [] σ ps Φ := fun H Q s q => ⟨rfl, q _ _ _ k s⟩
theorem wgs_cons {g : TG} {gs : TGs} {vs : List V} {Φ : L2.St → List HP → Prop} (h : Wg g v σ ps fun σ1 ps1 => Wgs gs vs σ1 ps1 Φ) : Wgs (gCons g gs) (v :: vs) σ ps Φ := fun H Q s q =>
  ⟨v, vs, rfl, h H _ s fun σ1 ps1 H1 h1 s1 => h1 H1 Q s1 q⟩
theorem wa_nil {Φ : List V → List HP → Prop} (k : Φ [] ps) : Wa tNil σ ps Φ := fun H Q s q => q _ _ _ k s
theorem wa_cons {Φ : List V → List HP → Prop} (h : We ta σ ps fun x ps1 => Wa tr σ ps1 fun xs ps2 => Φ (x :: xs) ps2) : Wa (tCons ta tr) σ ps Φ := fun H Q s q =>
  h H _ s fun x ps1 H1 h1 s1 => h1 H1 _ s1 fun xs ps2 H2 k s2 => q _ _ _ k s2
/-- room for a new object -/
def NewG (n : Nat) (k : Addr → Prop) : Prop := n ≤ sizeLine ∧ ∀ p, k p
theorem newG {n : Nat} {k : Addr → Prop} (l : n ≤ sizeLine) (h : ∀ p, k p) : NewG n k := ⟨l, h⟩
theorem we_tup (h : Wa tr σ ps fun xs ps1 => NewG xs.length fun p => Φ (.ref p) (pt p (.tup xs) :: ps1)) : We (tTup tr) σ ps Φ := fun H Q s q =>
  h H _ s fun xs ps1 H1 ⟨l, k⟩ s1 => ⟨l, fun p hp => q _ _ _ (k p) (s1.new hp)⟩
theorem we_lst (h : Wa tr σ ps fun xs ps1 => NewG xs.length fun p => Φ (.ref p) (pt p (.lst xs) :: ps1)) : We (tLst tr) σ ps Φ := fun H Q s q =>
  h H _ s fun xs ps1 H1 ⟨l, k⟩ s1 => ⟨l, fun p hp => q _ _ _ (k p) (s1.new hp)⟩
theorem we_dnewK (k : ∀ p, Φ (.ref p) (pt p (.dK []) :: ps)) : We tDNewK σ ps Φ := fun H Q s q p hp => q _ _ _ (k p) (s.new hp)
theorem we_dnewT (k : ∀ p, Φ (.ref p) (pt p (.dT []) :: ps)) : We tDNewT σ ps Φ := fun H Q s q p hp => q _ _ _ (k p) (s.new hp)
theorem we_CB {r : List V → Hp → VK → Prop} (h : Wa tr σ ps fun vs ps1 => Wc r vs ps1 Φ) : We (tCB r tr) σ ps Φ := fun H Q s q =>
  h H _ s fun vs ps1 H1 h1 s1 => h1 H1 Q s1 q
end
end Sp
set_option Elab.async false
set_option linter.all false
set_option maxRecDepth 100000
set_option maxHeartbeats 4000000
namespace Sp
open PySem PySem.Spec PyProof.Rows L2
@[irreducible] def RdL (K : PySem.W.Frag) (ps : List HP) (a : Addr) (xs : List V) : Prop := ∀ H, Sat H ps → SqL K H a xs
@[irreducible] def RdT (K : PySem.W.Frag) (ps : List HP) (a : Addr) (xs : List V) : Prop := ∀ H, Sat H ps → SqT K H a xs
section
variable {K : PySem.W.Frag} {ps ps' qs R : List HP} {a b : Addr} {xs ys : List V}
theorem rdl_pt (m : pt a (.lst xs) ∈ ps) : RdL K ps a xs := by unfold RdL; exact fun H s => SqL.of (s.get m)
theorem rdt_pt (m : pt a (.tup xs) ∈ ps) : RdT K ps a xs := by unfold RdT; exact fun H s => SqT.of (s.get m)
theorem rdt_of (h : ∀ H, SqT K H a xs) : RdT K ps a xs := by unfold RdT; exact fun H _ => h H
theorem RdL.ent (e : Ent ps ps') (h : RdL K ps' a xs) : RdL K ps a xs := by unfold RdL at *; exact fun H s => h H (e H s)
theorem RdT.ent (e : Ent ps ps') (h : RdT K ps' a xs) : RdT K ps a xs := by unfold RdT at *; exact fun H s => h H (e H s)
theorem RdL.at' (h : RdL K ps a xs) {H : Hp} (s : Sat H ps) : SqL K H a xs := by unfold RdL at h; exact h H s
theorem RdT.at' (h : RdT K ps a xs) {H : Hp} (s : Sat H ps) : SqT K H a xs := by unfold RdT at h; exact h H s
end
section
variable {K : PySem.W.Frag} {te ta tb tv td ti : TE} {t u : TT} {tr : TA} {σ : L2.St} {ps ps' ps1 R : List HP} {Φ : V → List HP → Prop} {x y v : V} {a b p : Addr} {xs ys : List V} {nx : PN} {rt : V → List HP → Prop} {bk ct : PN} {ts tz tu : TS} {i j : Int}
def rLen (K : PySem.W.Frag) : List V → Hp → VK → Prop := fun xs H Q => ∃ p ys, xs = [.ref p] ∧ (SqL K H p ys ∨ SqT K H p ys) ∧ Q (.int ys.length) H
theorem cr_len {X : Cx} : CallR X (.builtin "len") (rLen X.K) := call_len_seq
theorem wc_lenL (h : RdL K ps a xs) (k : Φ (.int xs.length) ps) : Wc (rLen K) [.ref a] ps Φ := fun H Q s q => ⟨a, xs, rfl, .inl (h.at' s), q _ _ _ k s⟩
theorem wc_lenT (h : RdT K ps a xs) (k : Φ (.int xs.length) ps) : Wc (rLen K) [.ref a] ps Φ := fun H Q s q => ⟨a, xs, rfl, .inr (h.at' s), q _ _ _ k s⟩
def rAbs : List V → Hp → VK → Prop := fun xs H Q => ∃ i, xs = [.int i] ∧ Q (.int (if i < 0 then -i else i)) H
theorem cr_abs {X : Cx} : CallR X (.builtin "abs") rAbs := call_abs
theorem wc_abs (k : Φ (.int (i.natAbs : Int)) ps) : Wc rAbs [.int i] ps Φ := fun H Q s q => ⟨i, rfl, by
  have e : (if i < 0 then -i else i) = (i.natAbs : Int) := by split <;> omega
  rw [e]; exact q _ _ _ k s⟩
def rMax2 : List V → Hp → VK → Prop := fun xs H Q => ∃ i j, xs = [.int i, .int j] ∧ Q (.int (if j > i then j else i)) H
def rMin2 : List V → Hp → VK → Prop := fun xs H Q => ∃ i j, xs = [.int i, .int j] ∧ Q (.int (if j < i then j else i)) H
theorem cr_max2 {X : Cx} (hc : X.calm = true) : CallR X (.builtin "max") rMax2 := call_max2 hc
theorem wc_max2 (k : Φ (.int (max i j)) ps) : Wc rMax2 [.int i, .int j] ps Φ := fun H Q s q => ⟨i, j, rfl, by
  have e : (if j > i then j else i) = max i j := by split <;> omega
  rw [e]; exact q _ _ _ k s⟩
theorem wc_min2 (k : Φ (.int (min i j)) ps) : Wc rMin2 [.int i, .int j] ps Φ := fun H Q s q => ⟨i, j, rfl, by
  have e : (if j < i then j else i) = min i j := by split <;> omega
  rw [e]; exact q _ _ _ k s⟩
def rInt1 : List V → Hp → VK → Prop := fun xs H Q => (∃ i, xs = [.int i] ∧ Q (.int i) H) ∨ ∃ k, xs = [.bl k] ∧ Q (.int (if k then 1 else 0)) H
theorem cr_int1 {X : Cx} : CallR X (.type "int") rInt1 := call_int1
theorem wc_int (k : Φ (.int i) ps) : Wc rInt1 [.int i] ps Φ := fun H Q s q => .inl ⟨i, rfl, q _ _ _ k s⟩
theorem wc_intB {c : Bool} (k : Φ (.int (if c then 1 else 0)) ps) : Wc rInt1 [.bl c] ps Φ := fun H Q s q => .inr ⟨c, rfl, q _ _ _ k s⟩
theorem wc_sum {ns : List Int} (h : RdL K ps a (ns.map V.int)) (k : Φ (.int ns.sum) ps) : Wc (rSum K) [.ref a] ps Φ := fun H Q s q => ⟨a, ns, rfl, h.at' s, q _ _ _ k s⟩
theorem wc_max {ns : List Int} (h : RdL K ps a (ns.map V.int)) (l : 0 < ns.length) (k : ∀ m, m ∈ ns → (∀ y, y ∈ ns → y ≤ m) → Φ (.int m) ps) : Wc (rMax K) [.ref a] ps Φ := fun H Q s q => ⟨a, ns, rfl, h.at' s, l, fun m h1 h2 => q _ _ _ (k m h1 h2) s⟩
theorem wc_sorted {ns : List Int} (h : RdL K ps a (ns.map V.int)) (k : ∀ (ns' : List Int) (p : Addr), ns'.Perm ns → ns'.Pairwise (· ≤ ·) → Φ (.ref p) (pt p (.lst (ns'.map V.int)) :: ps)) : Wc (rSortedI K) [.ref a] ps Φ := fun H Q s q =>
  ⟨a, ns, rfl, h.at' s, fun ns' p h1 h2 hp => q _ _ _ (k ns' p h1 h2) (s.new hp)⟩
def rListOf (K : PySem.W.Frag) : List V → Hp → VK → Prop := fun xs H Q => ∃ p ys, xs = [.ref p] ∧ (SqL K H p ys ∨ SqT K H p ys) ∧ ∀ l, H l = none → Q (.ref l) (upd H l (.lst ys))
theorem cr_listOf {X : Cx} : CallR X (.type "list") (rListOf X.K) := call_list_of
theorem wc_listL (h : RdL K ps a xs) (k : ∀ p, Φ (.ref p) (pt p (.lst xs) :: ps)) : Wc (rListOf K) [.ref a] ps Φ := fun H Q s q => ⟨a, xs, rfl, .inl (h.at' s), fun l hl => q _ _ _ (k l) (s.new hl)⟩
def rTupOf (K : PySem.W.Frag) : List V → Hp → VK → Prop := fun xs H Q => ∃ p ys, xs = [.ref p] ∧ ((SqL K H p ys ∧ ∀ l, H l = none → Q (.ref l) (upd H l (.tup ys))) ∨ (SqT K H p ys ∧ Q (.ref p) H))
theorem wc_tupL (h : RdL K ps a xs) (k : ∀ p, Φ (.ref p) (pt p (.tup xs) :: ps)) : Wc (rTupOf K) [.ref a] ps Φ := fun H Q s q => ⟨a, xs, rfl, .inl ⟨h.at' s, fun l hl => q _ _ _ (k l) (s.new hl)⟩⟩
theorem w2_ixL (h : RdL K ps a xs) (g : atI xs i = some v) (k : Φ v ps) : W2 (rIxL K) (.ref a) (.int i) ps Φ := fun H Q s q => ⟨a, xs, i, v, rfl, rfl, h.at' s, g, q _ _ _ k s⟩
theorem w2_ixT (h : RdT K ps a xs) (g : atI xs i = some v) (k : Φ v ps) : W2 (rIxT K) (.ref a) (.int i) ps Φ := fun H Q s q => ⟨a, xs, i, v, rfl, rfl, h.at' s, g, q _ _ _ k s⟩
theorem we_sl {r : V → Option Int → Option Int → Hp → VK → Prop} {tl th : TO} (h : We te σ ps fun x ps1 => Wo tl σ ps1 fun l ps2 => Wo th σ ps2 fun u ps3 => Wsl r x l u ps3 Φ) : We (tSl r te tl th) σ ps Φ := fun H Q s q =>
  h H _ s fun x ps1 H1 h1 s1 => h1 H1 _ s1 fun l ps2 H2 h2 s2 => h2 H2 _ s2 fun u ps3 H3 h3 s3 => h3 H3 Q s3 q
theorem wo_none {Φ : Option Int → List HP → Prop} (k : Φ none ps) : Wo tNoPart σ ps Φ := fun H Q s q => q _ _ _ k s
def IntG (x : V) (ps : List HP) (Φ : Option Int → List HP → Prop) : Prop := ∃ i, x = .int i ∧ Φ (some i) ps
theorem intG {Φ : Option Int → List HP → Prop} (k : Φ (some i) ps) : IntG (.int i) ps Φ := ⟨i, rfl, k⟩
theorem wo_some {Φ : Option Int → List HP → Prop} (h : We te σ ps fun x ps1 => IntG x ps1 Φ) : Wo (tPart te) σ ps Φ := fun H Q s q => h H _ s fun x ps1 H1 ⟨i, e, k⟩ s1 => ⟨i, e, q _ _ _ k s1⟩
theorem wsl_L {lo hi : Option Int} (h : RdL K ps a xs) (k : ∀ p, Φ (.ref p) (pt p (.lst (cutV xs lo hi)) :: ps)) : Wsl (rSlL K) (.ref a) lo hi ps Φ := fun H Q s q => ⟨a, xs, rfl, h.at' s, fun p hp => q _ _ _ (k p) (s.new hp)⟩
theorem w2_cat (m1 : pt a (.lst xs) ∈ ps) (m2 : pt b (.lst ys) ∈ ps) (l : xs.length + ys.length ≤ sizeLine) (k : ∀ p, Φ (.ref p) (pt p (.lst (xs ++ ys)) :: ps)) : W2 rCat (.ref a) (.ref b) ps Φ := fun H Q s q =>
  ⟨a, b, xs, ys, rfl, rfl, s.get m1, s.get m2, l, fun p hp => q _ _ _ (k p) (s.new hp)⟩
theorem w2_rep (m : pt a (.lst xs) ∈ ps) (h1 : -(2 ^ 63) ≤ i) (h2 : i < 2 ^ 63) (l : xs.length * i.toNat ≤ sizeLine) (k : ∀ p, Φ (.ref p) (pt p (.lst (List.replicate i.toNat xs).flatten) :: ps)) : W2 rRep (.ref a) (.int i) ps Φ := fun H Q s q =>
  ⟨a, i, xs, rfl, rfl, s.get m, h1, h2, l, fun p hp => q _ _ _ (k p) (s.new hp)⟩
theorem w2_inL (h : RdL K ps a xs) (f : flatV x = true) (g : xs.all flatV = true) (k : Φ (.bl (inV x xs)) ps) : W2 (rIn K false) x (.ref a) ps Φ := fun H Q s q => ⟨a, xs, rfl, .inl (h.at' s), f, g, q _ _ _ k s⟩
theorem w2_inT (h : RdT K ps a xs) (f : flatV x = true) (g : xs.all flatV = true) (k : Φ (.bl (inV x xs)) ps) : W2 (rIn K false) x (.ref a) ps Φ := fun H Q s q => ⟨a, xs, rfl, .inr (h.at' s), f, g, q _ _ _ k s⟩
theorem w2_ninL (h : RdL K ps a xs) (f : flatV x = true) (g : xs.all flatV = true) (k : Φ (.bl (!inV x xs)) ps) : W2 (rIn K true) x (.ref a) ps Φ := fun H Q s q => ⟨a, xs, rfl, .inl (h.at' s), f, g, q _ _ _ k s⟩
theorem w2_ninT (h : RdT K ps a xs) (f : flatV x = true) (g : xs.all flatV = true) (k : Φ (.bl (!inV x xs)) ps) : W2 (rIn K true) x (.ref a) ps Φ := fun H Q s q => ⟨a, xs, rfl, .inr (h.at' s), f, g, q _ _ _ k s⟩
@[irreducible] def RdD (K : PySem.W.Frag) (ps : List HP) (x : V) (d : PyData) : Prop := (∀ H, Sat H ps → Dp K H x d) ∧ SeqAt.shaped d = true
theorem rdd_int : RdD K ps (.int i) (.int i) := by unfold RdD; exact ⟨fun _ _ => .int i, rfl⟩
theorem rdd_non : RdD K ps .non .none := by unfold RdD; exact ⟨fun _ _ => .non, rfl⟩
theorem rdd_bl {c : Bool} : RdD K ps (.bl c) (.bool c) := by unfold RdD; exact ⟨fun _ _ => .bl c, rfl⟩
theorem w2_eqD {d e : PyData} (h1 : RdD K ps x d) (h2 : RdD K ps y e) (k : Φ (.bl (PyData.eqv d e)) ps) : W2 (rEqD K) x y ps Φ := by
  unfold RdD at h1 h2
  exact fun H Q s q => ⟨d, e, h1.1 H s, h2.1 H s, h1.2, h2.2, q _ _ _ k s⟩
theorem w2_neD {d e : PyData} (h1 : RdD K ps x d) (h2 : RdD K ps y e) (k : Φ (.bl (!PyData.eqv d e)) ps) : W2 (rNeD K) x y ps Φ := by
  unfold RdD at h1 h2
  exact fun H Q s q => ⟨d, e, h1.1 H s, h2.1 H s, h1.2, h2.2, q _ _ _ k s⟩
def TyG (K : PySem.W.Frag) (T : String) (x : V) (ps : List HP) (k : List HP → Prop) : Prop := (∀ H, Sat H ps → tyV K T x H) ∧ k ps
theorem we_BM {T : String} {r : V → List V → Hp → VK → Prop} (h : We te σ ps fun x ps1 => TyG K T x ps1 fun ps1 => Wa tr σ ps1 fun vs ps2 => Wm r x vs ps2 Φ) : We (tBM K T r te tr) σ ps Φ := fun H Q s q =>
  h H _ s fun x ps1 H1 ⟨ty, h1⟩ s1 => ⟨ty H1 s1, h1 H1 _ s1 fun vs ps2 H2 h2 s2 => h2 H2 Q s2 q⟩
theorem we_BM0 {T : String} {r : V → List V → Hp → VK → Prop} (h : We te σ ps fun x ps1 => TyG K T x ps1 fun ps1 => Wm r x [] ps1 Φ) : We (tBM0 K T r te) σ ps Φ := fun H Q s q =>
  h H _ s fun x ps1 H1 ⟨ty, h1⟩ s1 => ⟨ty H1 s1, h1 H1 Q s1 q⟩
theorem tyL {k : List HP → Prop} (h : RdL K ps a xs) (q : k ps) : TyG K "list" (.ref a) ps k := ⟨fun H s => .inl ⟨rfl, xs, h.at' s⟩, q⟩
theorem wm_append (m : Rep (pt a (.lst xs)) (pt a (.lst (xs ++ [y]))) ps ps') (l : xs.length < sizeLine) (k : Φ .non ps') : Wm rAppend (.ref a) [y] ps Φ := fun H Q s q =>
  ⟨a, xs, y, rfl, rfl, s.get m.mem, l, q _ _ _ k (s.rep m)⟩
theorem wm_popAt {n : Nat} (m : Rep (pt a (.lst xs)) (pt a (.lst (xs.eraseIdx n))) ps ps') (g : xs[n]? = some y) (e : i = (n : Int)) (hn : n < 2 ^ 62) (k : Φ y ps') : Wm rPopAt (.ref a) [.int i] ps Φ := fun H Q s q => by
  subst e
  have hl : n < xs.length := (List.getElem?_eq_some_iff.mp g).1
  refine ⟨a, xs, (n : Int), n, y, rfl, rfl, s.get m.mem, by omega, by omega, ?_, g, q _ _ _ k (s.rep m)⟩
  have h1 : ixN xs.length (n : Int) = some n := by
    unfold ixN
    rw [if_pos (by omega), if_pos (by omega)]
    simp
  exact (ixN_seq h1).1
theorem wst_L {n : Nat} {Ψ : List HP → Prop} (m : Rep (pt a (.lst xs)) (pt a (.lst (xs.set n y))) ps ps') (e : i = (n : Int)) (l : n < xs.length) (k : Ψ ps') : Wst rSetL (.ref a) (.int i) y ps Ψ := fun H Q s q => by
  subst e
  refine ⟨a, xs, (n : Int), n, rfl, rfl, s.get m.mem, ?_, q _ _ k (s.rep m)⟩
  unfold ixN
  rw [if_pos (by omega), if_pos (by omega)]
  simp
/-- what the dict at a is read to hold at y -/
def DGetP (ps : List HP) (a : Addr) (y : V) (o : Option V) : Prop := ∀ H, Sat H ps → DGet H a y o
theorem dgetK {kvs : List (Key × V)} {q : Key} (m : pt a (.dK kvs) ∈ ps) (e : y = kV q) : DGetP ps a y (valV kvs q) := fun H s => by subst e; exact DGet.k (s.get m)
def DGetG (x y : V) (ps : List HP) (Φ : V → List HP → Prop) : Prop := ∃ a v, x = .ref a ∧ DGetP ps a y (some v) ∧ Φ v ps
theorem we_dget (h : We td σ ps fun x ps1 => We ti σ ps1 fun y ps2 => DGetG x y ps2 Φ) : We (tDGet td ti) σ ps Φ := fun H Q s q =>
  h H _ s fun x ps1 H1 h1 s1 => h1 H1 _ s1 fun y ps2 H2 ⟨a, v, e, g, k⟩ s2 => ⟨a, v, e, g H2 s2, q _ _ _ k s2⟩
def DInG (x y : V) (ps : List HP) (Φ : Bool → List HP → Prop) : Prop := ∃ a o, x = .ref a ∧ DGetP ps a y o ∧ Φ o.isSome ps
theorem we_din (h : We ti σ ps fun y ps1 => We td σ ps1 fun x ps2 => DInG x y ps2 fun c ps3 => Φ (.bl c) ps3) : We (tDIn ti td) σ ps Φ := fun H Q s q =>
  h H _ s fun y ps1 H1 h1 s1 => h1 H1 _ s1 fun x ps2 H2 ⟨a, o, e, g, k⟩ s2 => ⟨a, o, e, g H2 s2, q _ _ _ k s2⟩
theorem we_dnotin (h : We ti σ ps fun y ps1 => We td σ ps1 fun x ps2 => DInG x y ps2 fun c ps3 => Φ (.bl (!c)) ps3) : We (tDNotIn ti td) σ ps Φ := fun H Q s q =>
  h H _ s fun y ps1 H1 h1 s1 => h1 H1 _ s1 fun x ps2 H2 ⟨a, o, e, g, k⟩ s2 => ⟨a, o, e, g H2 s2, q _ _ _ k s2⟩
def DPutG (x y v : V) (ps : List HP) (k : List HP → Prop) : Prop := ∃ a ps', x = .ref a ∧ (∀ H, Sat H ps → ∃ H', DPut H a y v H' ∧ Sat H' ps') ∧ k ps'
theorem ws_dput (h : We tv σ ps fun v ps1 => We td σ ps1 fun x ps2 => We ti σ ps2 fun y ps3 => DPutG x y v ps3 (nx σ)) : Ws (sDPut td ti tv) nx rt bk ct σ ps := fun H D' s l =>
  h H _ s fun v ps1 H1 h1 s1 => h1 H1 _ s1 fun x ps2 H2 h2 s2 => h2 H2 _ s2 fun y ps3 H3 ⟨a, ps', e, g, k⟩ s3 => let ⟨H4, g1, g2⟩ := g H3 s3; ⟨a, H4, e, g1, l.nx _ _ _ k g2⟩
theorem dputK {kvs : List (Key × V)} {q : Key} {k : List HP → Prop} (e : y = kV q) (m : Rep (pt a (.dK kvs)) (pt a (.dK (putK kvs q v))) ps ps') (l : kvs.length < sizeLine) (h : k ps') : DPutG (.ref a) y v ps k := by
  subst e
  exact ⟨a, ps', rfl, fun H s => ⟨_, DPut.k (s.get m.mem) l, s.rep m⟩, h⟩
/-- the pairs of a display -/
def Wp : List (TE × TE) → L2.St → List HP → (List (V × V) → List HP → Prop) → Prop
  | [], _, ps, Φ => Φ [] ps
  | (tk, tv) :: r, σ, ps, Φ => We tk σ ps fun x ps1 => We tv σ ps1 fun y ps2 => Wp r σ ps2 fun l ps3 => Φ ((x, y) :: l) ps3
theorem wp_run : ∀ {trs : List (TE × TE)} {σ : L2.St} {ps : List HP} {Φ : List (V × V) → List HP → Prop}, Wp trs σ ps Φ → ∀ (H : Hp) (Q : List (V × V) → Hp → Prop), Sat H ps → (∀ v ps' H', Φ v ps' → Sat H' ps' → Q v H') → tPairs trs σ H Q
  | [], _, _, _, h, H, Q, s, q => q _ _ _ h s
  | (tk, tv) :: r, σ, ps, Φ, h, H, Q, s, q => h H _ s fun x ps1 H1 h1 s1 => h1 H1 _ s1 fun y ps2 H2 h2 s2 => wp_run h2 H2 _ s2 fun l ps3 H3 k s3 => q _ _ _ k s3
theorem wg_tup {n : Nat} {gs : TGs} {Φ : L2.St → List HP → Prop} (h : RdT K ps a xs) (l : xs.length = n) (k : Wgs gs xs σ ps Φ) : Wg (gTup K n gs) (.ref a) σ ps Φ := fun H Q s q => ⟨a, xs, rfl, h.at' s, l, k H Q s q⟩
structure Src where
  n : Nat
  rd : List HP → Prop
  item : Nat → V → List HP → Prop
structure SrcOk (S : Src) (J : It) : Prop where
  go : ∀ i ps H, S.rd ps → Sat H ps → i < S.n → J.go i H ∧ ∀ x H', J.yld i H x H' → ∃ ex, S.item i x ex ∧ Sat H' (ex ++ ps)
  stop : ∀ ps H, S.rd ps → Sat H ps → J.stop S.n H
def Wi (wi : TI) (σ : L2.St) (ps : List HP) (Φ : Src → List HP → Prop) : Prop := ∀ (H : Hp) (R : It → Hp → Prop), Sat H ps → (∀ S J ps' H', SrcOk S J → Φ S ps' → Sat H' ps' → R J H') → wi σ H R
def srcL (K : PySem.W.Frag) (a : Addr) (xs : List V) : Src := ⟨xs.length, fun ps => RdL K ps a xs, fun i x ex => xs[i]? = some x ∧ ex = []⟩
def srcR (lo : Int) (n : Nat) : Src := ⟨n, fun _ => True, fun i x ex => x = .int (lo + (i : Nat)) ∧ ex = []⟩
def srcE (K : PySem.W.Frag) (a : Addr) (xs : List V) : Src := ⟨xs.length, fun ps => RdL K ps a xs, fun i x ex => ∃ p y, xs[i]? = some y ∧ x = .ref p ∧ ex = [pt p (.tup [.int (i : Nat), y])]⟩
theorem wi_L {tl : TE} {Φ : Src → List HP → Prop} (h : We tl σ ps fun x ps1 => ∃ a xs, x = .ref a ∧ RdL K ps1 a xs ∧ Φ (srcL K a xs) ps1) : Wi (iList K tl) σ ps Φ := fun H R s q =>
  h H _ s fun x ps1 H1 ⟨a, xs, e, rd, k⟩ s1 => ⟨a, e, ⟨xs, rd.at' s1⟩, q (srcL K a xs) _ ps1 H1 ⟨fun i ps H r s hi => ⟨⟨xs, xs[i], RdL.at' r s, List.getElem?_eq_getElem hi⟩, fun x H' ⟨e1, e2⟩ => ⟨[], ⟨e2 xs (RdL.at' r s), rfl⟩, by subst e1; exact s⟩⟩,
    fun ps H r s => ⟨xs, RdL.at' r s, Nat.le_refl _⟩⟩ k s1⟩
theorem wi_R1 {Φ : Src → List HP → Prop} (h : Wa tr σ ps fun vs ps1 => ∃ (j : Int) (n : Nat), vs = [.int j] ∧ n = j.toNat ∧ (-(2 ^ 60) ≤ j ∧ j < 2 ^ 60) ∧ Φ (srcR 0 n) ps1) : Wi (iRng1 tr) σ ps Φ := fun H R s q =>
  h H _ s fun vs ps1 H1 ⟨j, n, e, en, hj, k⟩ s1 => ⟨j, e, by omega, by omega, by
    subst en
    exact q (srcR 0 j.toNat) _ ps1 H1 ⟨fun i ps H r s hi => ⟨hi, fun x H' ⟨e1, e2⟩ => ⟨[], ⟨e2, rfl⟩, by subst e1; exact s⟩⟩, fun ps H r s => Nat.le_refl _⟩ k s1⟩
theorem wi_E {Φ : Src → List HP → Prop} (h : Wa tr σ ps fun vs ps1 => ∃ a xs, vs = [.ref a] ∧ RdL K ps1 a xs ∧ Φ (srcE K a xs) ps1) : Wi (iEnum K tr) σ ps Φ := fun H R s q =>
  h H _ s fun vs ps1 H1 ⟨a, xs, e, rd, k⟩ s1 => ⟨a, xs, e, rd.at' s1, q (srcE K a xs) _ ps1 H1 ⟨fun i ps H r s hi => ⟨⟨xs, xs[i], RdL.at' r s, List.getElem?_eq_getElem hi⟩, by
    rintro v H' ⟨T, x, rfl, hT, rfl, hx⟩
    exact ⟨[pt T (.tup [.int (i : Nat), x])], ⟨T, x, hx xs (RdL.at' r s), rfl, rfl⟩, s.new hT⟩⟩, fun ps H r s => ⟨xs, RdL.at' r s, Nat.le_refl _⟩⟩ k s1⟩
theorem ws_for {wi : TI} {g : TG} (h : Wi wi σ ps fun S ps1 => ∃ W : Nat → L2.St → List HP → Prop, W 0 σ ps1 ∧ (∀ i σ ps, W i σ ps → i ≤ S.n → S.rd ps) ∧
    (∀ i x ex σ ps, i < S.n → S.item i x ex → W i σ ps → Wg g x σ (ex ++ ps) fun σ2 ps2 => Ws ts (W (i + 1)) rt nx (W (i + 1)) σ2 ps2) ∧ ∀ σ ps, W S.n σ ps → nx σ ps) : Ws (tFor wi g ts) nx rt bk ct σ ps := fun H D' s l =>
  h H _ s fun S J ps1 H1 ok ⟨W, w0, wl, wt, we⟩ s1 => by
    refine ⟨fun i m σ H => m + i = S.n ∧ ∃ ps, W i σ ps ∧ Sat H ps, ⟨S.n, rfl, ps1, w0, s1⟩, fun i m σ H ⟨hm, ps, w, s⟩ => ?_⟩
    have rd := wl i σ ps w (by omega)
    by_cases hi : i < S.n
    · obtain ⟨g1, g2⟩ := ok.go i ps H rd s hi
      refine .inr ⟨g1, fun σ' H' => ∃ ps', W (i + 1) σ' ps' ∧ Sat H' ps', fun σ' H' ⟨ps', w', s'⟩ => ⟨m - 1, by omega, by omega, ps', w', s'⟩, fun x H' y => ?_⟩
      obtain ⟨ex, it, s2⟩ := g2 x H' y
      exact wt i x ex σ ps hi it w _ _ s2 fun σ2 ps2 H2 h2 s2 => h2 H2 _ s2 ⟨fun σ ps H k s => ⟨ps, k, s⟩, l.rt, fun σ ps H k s => l.nx _ _ _ k s, fun σ ps H k s => ⟨ps, k, s⟩⟩
    · have e : i = S.n := by omega
      subst e
      exact .inl ⟨ok.stop ps H rd s, l.nx _ _ _ (we σ ps w) s⟩
theorem wt_yes {Φ : Bool → List HP → Prop} (k : Φ true ps) : Wt tYes σ ps Φ := fun H Q s q => q _ _ _ k s
def WipG (σ σ' : L2.St) (k : Prop) : Prop := σ = σ' ∧ k
theorem wipG {σ σ' : L2.St} {k : Prop} (e : σ = σ') (h : k) : WipG σ σ' k := ⟨e, h⟩
/-- the new item goes to the list that is made -/
def AccG (d : Addr) (acc : List V) (y : V) (ps : List HP) (k : List V → List HP → Prop) : Prop := acc.length < sizeLine ∧ ∃ ps', Rep (pt d (.lst acc)) (pt d (.lst (acc ++ [y]))) ps ps' ∧ k (acc ++ [y]) ps'
theorem accG {d : Addr} {acc : List V} {k : List V → List HP → Prop} (r : Rep (pt d (.lst acc)) (pt d (.lst (acc ++ [y]))) ps ps') (l : acc.length < sizeLine) (h : k (acc ++ [y]) ps') : AccG d acc y ps k := ⟨l, ps', r, h⟩
theorem we_lc {wi : TI} {g : TG} {ns : List Nat} (h : Wi wi σ ps fun S ps1 => ∃ W : Addr → Nat → List V → List HP → Prop, (∀ d, W d 0 [] (pt d (.lst []) :: ps1)) ∧ (∀ d i acc ps, W d i acc ps → i ≤ S.n → S.rd ps) ∧
    (∀ d i x ex acc ps, i < S.n → S.item i x ex → W d i acc ps → Wg g x (wipe σ ns) (ex ++ ps) fun σ2 ps2 => WipG (wipe σ2 ns) (wipe σ ns) (Wt t σ2 ps2 fun b ps3 =>
      if b = true then We te σ2 ps3 fun y ps4 => AccG d acc y ps4 (W d (i + 1)) else W d (i + 1) acc ps3)) ∧
    ∀ d acc ps, W d S.n acc ps → Φ (.ref d) ps) : We (tLc wi g t te ns) σ ps Φ := fun H Q s q =>
  h H _ s fun S J ps1 H1 ok ⟨W, w0, wl, wt, we⟩ s1 d hd => by
    refine ⟨fun i m H => m + i = S.n ∧ ∃ acc ps, W d i acc ps ∧ Sat H ps, ⟨S.n, rfl, [], _, w0 d, s1.new hd⟩, fun i m H ⟨hm, acc, ps, w, s⟩ => ?_⟩
    have rd := wl d i acc ps w (by omega)
    by_cases hi : i < S.n
    · obtain ⟨g1, g2⟩ := ok.go i ps H rd s hi
      refine .inr ⟨g1, fun H' => ∃ acc ps', W d (i + 1) acc ps' ∧ Sat H' ps', fun H' ⟨acc', ps', w', s'⟩ => ⟨m - 1, by omega, by omega, acc', ps', w', s'⟩, fun x H' y => ?_⟩
      obtain ⟨ex, it, s2⟩ := g2 x H' y
      refine wt d i x ex acc ps hi it w _ _ s2 fun σ2 ps2 H2 ⟨ew, h2⟩ s2 => ⟨ew, h2 H2 _ s2 fun b ps3 H3 k s3 => ?_⟩
      cases b with
      | true =>
        rw [if_pos rfl] at k ⊢
        refine k H3 _ s3 fun y ps4 H4 ⟨hl, ps5, r, w5⟩ s4 => ?_
        exact ⟨acc, s4.get r.mem, hl, acc ++ [y], ps5, w5, s4.rep r⟩
      | false =>
        rw [if_neg Bool.false_ne_true] at k ⊢
        exact ⟨acc, ps3, k, s3⟩
    · have e : i = S.n := by omega
      subst e
      exact .inl ⟨ok.stop ps H rd s, q _ _ _ (we d acc ps w) s⟩
/-- a promise over symbolic heaps -/
abbrev SP := List V → List HP → (V → List HP → Prop) → Prop
def spS (S : SP) : L2.Sp := fun vs H Q _ => ∃ ps Φ, Sat H ps ∧ S vs ps Φ ∧ ∀ v ps' H', Φ v ps' → Sat H' ps' → Q v H'
/-- .. of a def that may raise: Ψ of the class -/
abbrev SX := List V → List HP → (V → List HP → Prop) → (Value → List HP → Prop) → Prop
def spX (S : SX) : L2.Sp := fun vs H Q E => ∃ ps Φ Ψ, Sat H ps ∧ S vs ps Φ Ψ ∧ (∀ v ps' H', Φ v ps' → Sat H' ps' → Q v H') ∧ ∀ c ps' H', Ψ c ps' → Sat H' ps' → E c none H'
theorem we_call {S : SP} {E : XK} (h : Wa tr σ ps fun vs ps1 => S vs ps1 Φ) : We (tCall (spS S) [] E tr) σ ps Φ := fun H Q s q => h H _ s fun vs ps1 H1 k s1 => by
  show spS S (vs ++ []) H1 Q E
  rw [List.append_nil]
  exact ⟨ps1, Φ, s1, k, q⟩
def MethG (C : Addr) (m : Str) (x : V) (ps : List HP) (k : List HP → Prop) : Prop := ∃ a, x = .ref a ∧ (∀ H, Sat H ps → ∃ dx fs, H a = some (.ins C dx fs) ∧ fs.lookup m = none) ∧ k ps
theorem methG {names : List Str} {I : CI K names} {fs : List (Str × V)} {r : List Str} {m : Str} {k : List HP → Prop} (h : obj I a fs ∈ ps) (p : fs.map (·.1) ++ r = names) (n : m ∉ names) (q : k ps) : MethG I.C m (.ref a) ps k := ⟨a, rfl, fun H s => by
  obtain ⟨dx, e⟩ := s.obj h
  exact ⟨dx, fs, e, lookup_not fun z => n (by rw [← p]; exact List.mem_append_left _ z)⟩, q⟩
/-- .. of a part that holds the object -/
theorem methC {c : HP} {C : Addr} {m : Str} {k : List HP → Prop} (h : c ∈ ps) (e : ∀ H R, Sat H (c :: R) → ∃ dx fs, H a = some (.ins C dx fs) ∧ fs.lookup m = none) (q : k ps) : MethG C m (.ref a) ps k := ⟨a, rfl, fun H s => by
  obtain ⟨l1, l2, rfl⟩ := List.append_of_mem h
  exact e H _ (s.perm List.perm_middle), q⟩
theorem MethG.at' {C : Addr} {m : Str} {k : List HP → Prop} {H : Hp} (g : MethG C m x ps k) (s : Sat H ps) : ∃ a dx fs, x = .ref a ∧ H a = some (.ins C dx fs) ∧ fs.lookup m = none ∧ k ps := by
  obtain ⟨a, rfl, h, q⟩ := g
  obtain ⟨dx, fs, e1, e2⟩ := h H s
  exact ⟨a, dx, fs, rfl, e1, e2, q⟩
theorem we_meth {S : SP} {E : XK} {C : Addr} {m : Str} (h : We te σ ps fun x ps1 => MethG C m x ps1 fun ps1 => Wa tr σ ps1 fun vs ps2 => S (x :: vs) ps2 Φ) : We (tMeth C m (spS S) [] E te tr) σ ps Φ := fun H Q s q =>
  h H _ s fun x ps1 H1 g s1 => by
    obtain ⟨a, dx, fs, e1, e2, e3, k⟩ := g.at' s1
    refine ⟨a, dx, fs, e1, e2, e3, k H1 _ s1 fun vs ps2 H2 k2 s2 => ?_⟩
    show spS S (x :: (vs ++ [])) H2 Q E
    rw [List.append_nil]
    exact ⟨ps2, Φ, s2, k2, q⟩
theorem we_make {S : SP} {E : XK} {names : List Str} {I : CI K names} (h : Wa tr σ ps fun vs ps1 => ∀ x, S (.ref x :: vs) (obj I x [] :: ps1) fun v ps2 => v = .non ∧ Φ (.ref x) ps2) : We (tMake I.C (spS S) [] E tr) σ ps Φ := fun H Q s q =>
  h H _ s fun vs ps1 H1 k s1 x dx hx hdx ne => by
    show spS S (.ref x :: (vs ++ [])) _ _ E
    rw [List.append_nil]
    refine ⟨_, _, ?_, k x, fun v ps' H' ⟨e, f⟩ s' => ⟨e, q _ _ _ f s'⟩⟩
    have t1 := s1.new (o := .own x) hdx
    have t2 := t1.new (a := x) (o := .ins I.C dx []) (by rw [upd_ne (Ne.symm ne)]; exact hx)
    have t3 := t2.perm (List.Perm.swap _ _ _)
    have t4 := t3.drop
    unfold Sp.obj
    exact Sat.ex.mpr ⟨dx, t4⟩
theorem we_callX {S : SX} {E : XK} {Ψ : Value → List HP → Prop} (hE : ∀ c ps' H', Ψ c ps' → Sat H' ps' → E c none H') (h : Wa tr σ ps fun vs ps1 => S vs ps1 Φ Ψ) : We (tCall (spX S) [] E tr) σ ps Φ := fun H Q s q => h H _ s fun vs ps1 H1 k s1 => by
  show spX S (vs ++ []) H1 Q E
  rw [List.append_nil]
  exact ⟨ps1, Φ, Ψ, s1, k, q, hE⟩
theorem we_methX {S : SX} {E : XK} {Ψ : Value → List HP → Prop} {C : Addr} {m : Str} (hE : ∀ c ps' H', Ψ c ps' → Sat H' ps' → E c none H') (h : We te σ ps fun x ps1 => MethG C m x ps1 fun ps1 => Wa tr σ ps1 fun vs ps2 => S (x :: vs) ps2 Φ Ψ) : We (tMeth C m (spX S) [] E te tr) σ ps Φ := fun H Q s q =>
  h H _ s fun x ps1 H1 g s1 => by
    obtain ⟨a, dx, fs, e1, e2, e3, k⟩ := g.at' s1
    refine ⟨a, dx, fs, e1, e2, e3, k H1 _ s1 fun vs ps2 H2 k2 s2 => ?_⟩
    show spX S (x :: (vs ++ [])) H2 Q E
    rw [List.append_nil]
    exact ⟨ps2, Φ, Ψ, s2, k2, q, hE⟩
theorem we_makeX {S : SX} {E : XK} {Ψ : Value → List HP → Prop} {names : List Str} {I : CI K names} (hE : ∀ c ps' H', Ψ c ps' → Sat H' ps' → E c none H') (h : Wa tr σ ps fun vs ps1 => ∀ x, S (.ref x :: vs) (obj I x [] :: ps1) (fun v ps2 => v = .non ∧ Φ (.ref x) ps2) Ψ) : We (tMake I.C (spX S) [] E tr) σ ps Φ := fun H Q s q =>
  h H _ s fun vs ps1 H1 k s1 x dx hx hdx ne => by
    show spX S (.ref x :: (vs ++ [])) _ _ E
    rw [List.append_nil]
    refine ⟨_, _, Ψ, ?_, k x, fun v ps' H' ⟨e, f⟩ s' => ⟨e, q _ _ _ f s'⟩, hE⟩
    have t1 := s1.new (o := .own x) hdx
    have t2 := t1.new (a := x) (o := .ins I.C dx []) (by rw [upd_ne (Ne.symm ne)]; exact hx)
    have t3 := t2.perm (List.Perm.swap _ _ _)
    have t4 := t3.drop
    unfold Sp.obj
    exact Sat.ex.mpr ⟨dx, t4⟩
/-- what is left at a def's end -/
def OutP (Φ : V → List HP → Prop) (v : V) (ps : List HP) : Prop := ∀ H, Sat H ps → ∃ ps', Sat H ps' ∧ Φ v ps'
abbrev noN : PN := fun _ _ => False
end
section
variable {P : Program} {w : World} {K : PySem.W.Frag} {mg : Str → Option Value} {base : Heap}
theorem okS {x qual : Str} {st : Stmt} {f : Addr} {fd : FuncData} {N pars : List Str} {k : Nat} {S : SP} (F : Fun K x qual st f fd) (Sc : FnScope N pars (defScope st)) (len : ∀ vs ps Φ, S vs ps Φ → vs.length = pars.length)
    (body : ∀ (cdv : Value) (A : Around) (outer : List Env) (s : Shared) (H : Hp) (E : XK), Room k (A.deeper (envOfC qual (defScope st) s.heap.objs.size f cdv)) →
      ∃ t, PSs (cxOf CX0 P w K mg base N qual (defScope st) f cdv A outer s H E).nox (defBody st) t ∧ ∀ vs ps Φ, S vs ps Φ → Ws t (fun _ ps' => OutP Φ .non ps') (OutP Φ) noN noN (start N vs) ps) : FnOk P w K mg base CX0 (k + 1) f fd pars (spS S) := by
  refine F.ok Sc (fun vs H Q E h => ?_) (fun cdv A outer s H vs Q E hr h => ?_)
  · obtain ⟨ps, Φ, _, h, _⟩ := h
    exact len vs ps Φ h
  · obtain ⟨ps, Φ, s0, h, q⟩ := h
    obtain ⟨t, d, r⟩ := body cdv A outer s H E hr
    exact ⟨t, d, r vs ps Φ h H _ s0 ⟨fun σ ps' H' o s' => let ⟨ps2, s2, f⟩ := o H' s'; q _ _ _ f s2, fun v ps' H' o s' => let ⟨ps2, s2, f⟩ := o H' s'; q _ _ _ f s2, fun _ _ _ z => z.elim, fun _ _ _ z => z.elim⟩⟩
theorem okX {x qual : Str} {st : Stmt} {f : Addr} {fd : FuncData} {N pars : List Str} {k : Nat} {S : SX} (F : Fun K x qual st f fd) (Sc : FnScope N pars (defScope st)) (len : ∀ vs ps Φ Ψ, S vs ps Φ Ψ → vs.length = pars.length)
    (body : ∀ (cdv : Value) (A : Around) (outer : List Env) (s : Shared) (H : Hp) (E : XK), Room k (A.deeper (envOfC qual (defScope st) s.heap.objs.size f cdv)) →
      ∃ t, PSs (cxOf (L2.CX P w) P w K mg base N qual (defScope st) f cdv A outer s H E) (defBody st) t ∧ ∀ vs ps Φ Ψ, S vs ps Φ Ψ → (∀ c ps' H', Ψ c ps' → Sat H' ps' → E c none H') → Ws t (fun _ ps' => OutP Φ .non ps') (OutP Φ) noN noN (start N vs) ps) : FnOk P w K mg base (L2.CX P w) (k + 1) f fd pars (spX S) := by
  refine F.okX Sc (fun vs H Q E h => ?_) (fun cdv A outer s H vs Q E hr h => ?_)
  · obtain ⟨ps, Φ, Ψ, _, h, _⟩ := h
    exact len vs ps Φ Ψ h
  · obtain ⟨ps, Φ, Ψ, s0, h, q, qE⟩ := h
    obtain ⟨t, d, r⟩ := body cdv A outer s H E hr
    exact ⟨t, d, r vs ps Φ Ψ h qE H _ s0 ⟨fun σ ps' H' o s' => let ⟨ps2, s2, f⟩ := o H' s'; q _ _ _ f s2, fun v ps' H' o s' => let ⟨ps2, s2, f⟩ := o H' s'; q _ _ _ f s2, fun _ _ _ z => z.elim, fun _ _ _ z => z.elim⟩⟩
end
end Sp
namespace Sp
open PySem PySem.Spec PyProof.Rows L2
theorem iteD {c : Prop} [Decidable c] {A B : Prop} (h1 : c → A) (h2 : ¬ c → B) : if decide c = true then A else B := by
  by_cases h : c
  · rw [decide_eq_true h, if_pos rfl]; exact h1 h
  · rw [decide_eq_false h, if_neg Bool.false_ne_true]; exact h2 h
theorem iteND {c : Prop} [Decidable c] {A B : Prop} (h1 : ¬ c → A) (h2 : c → B) : if (!decide c) = true then A else B := by
  by_cases h : c
  · rw [decide_eq_true h]; exact h2 h
  · rw [decide_eq_false h]; exact h1 h
/-- a value told, what is left as it stands -/
theorem OutP.mk' {Φ : V → List HP → Prop} {v : V} {ps ps' : List HP} (e : Ent ps ps') (h : Φ v ps') : OutP Φ v ps := fun H s => ⟨ps', e H s, h⟩
theorem OutP.here {Φ : V → List HP → Prop} {v : V} {ps : List HP} (h : Φ v ps) : OutP Φ v ps := fun H s => ⟨ps, s, h⟩
theorem atI_of {α : Type} {xs : List α} {i : Int} {j : Nat} {v : α} (e : i = (j : Int)) (h : xs[j]? = some v) : atI xs i = some v := by subst e; exact atI_nat h
end Sp
set_option Elab.async false
set_option linter.all false
set_option maxRecDepth 100000
set_option maxHeartbeats 4000000
namespace Sp
open PySem PySem.Spec PyProof.Rows L2
section
variable {K : PySem.W.Frag} {te ta tb tv td ti : TE} {t u : TT} {tr : TA} {σ : L2.St} {ps ps' ps1 R : List HP} {Φ : V → List HP → Prop} {x y v : V} {a b p : Addr} {xs ys : List V}
inductive RdDs (K : PySem.W.Frag) (ps : List HP) : List V → List PyData → Prop
  | nil : RdDs K ps [] []
  | cons {v : V} {d : PyData} {vs : List V} {ds : List PyData} (h : ∀ H, Sat H ps → Dp K H v d) (t : RdDs K ps vs ds) : RdDs K ps (v :: vs) (d :: ds)
theorem RdDs.all {vs : List V} {ds : List PyData} (h : RdDs K ps vs ds) {H : Hp} (s : Sat H ps) : DpAll K H vs ds := by
  induction h with
  | nil => exact .nil
  | cons h _ ih => exact .cons (h H s) ih
theorem rdd_list {ds : List PyData} (h : RdL K ps a xs) (g : RdDs K ps xs ds) (s : SeqAt.shaped (.list ds) = true) : RdD K ps (.ref a) (.list ds) := by
  unfold RdD
  exact ⟨fun H z => .lst (h.at' z) (g.all z), s⟩
theorem rdd_tup {ds : List PyData} (h : RdT K ps a xs) (g : RdDs K ps xs ds) (s : SeqAt.shaped (.tuple ds) = true) : RdD K ps (.ref a) (.tuple ds) := by
  unfold RdD
  exact ⟨fun H z => .tup (h.at' z) (g.all z), s⟩
theorem RdD.dp {d : PyData} (h : RdD K ps v d) : ∀ H, Sat H ps → Dp K H v d := by unfold RdD at h; exact h.1
theorem RdD.ent {d : PyData} (e : Ent ps ps') (h : RdD K ps' v d) : RdD K ps v d := by
  unfold RdD at *; exact ⟨fun H s => h.1 H (e H s), h.2⟩
theorem rdds_ints (ns : List Int) : RdDs K ps (ns.map V.int) (ns.map PyData.int) := by
  induction ns with
  | nil => exact .nil
  | cons n r ih => exact .cons (fun _ _ => .int n) ih
theorem canLay_ints (ns : List Int) : PyData.canLayAll0 (ns.map PyData.int) = true := by
  induction ns with
  | nil => rfl
  | cons n r ih => simp [PyData.canLayAll0, PyData.canLay0, ih]
theorem depthAll_ints (ns : List Int) : PyData.depthAll (ns.map PyData.int) ≤ 1 := by
  induction ns with
  | nil => simp [PyData.depthAll]
  | cons n r ih => simp only [List.map, PyData.depthAll, PyData.depth]; omega
theorem shaped_ints (ns : List Int) : SeqAt.shaped (.list (ns.map PyData.int)) = true := by
  have h := depthAll_ints ns
  unfold SeqAt.shaped
  refine Bool.and_eq_true_iff.mpr ⟨canLay_ints ns, decide_eq_true ?_⟩
  show PyData.depthAll (ns.map PyData.int) + 1 ≤ 64
  omega
theorem shaped_tints (ns : List Int) : SeqAt.shaped (.tuple (ns.map PyData.int)) = true := by
  have h := depthAll_ints ns
  unfold SeqAt.shaped
  refine Bool.and_eq_true_iff.mpr ⟨canLay_ints ns, decide_eq_true ?_⟩
  show PyData.depthAll (ns.map PyData.int) + 1 ≤ 64
  omega
theorem rdd_ints {ns : List Int} (h : RdL K ps a (ns.map V.int)) : RdD K ps (.ref a) (.list (ns.map .int)) := rdd_list h (rdds_ints ns) (shaped_ints ns)
theorem rdd_tints {ns : List Int} (h : RdT K ps a (ns.map V.int)) : RdD K ps (.ref a) (.tuple (ns.map .int)) := rdd_tup h (rdds_ints ns) (shaped_tints ns)
theorem eqvAll_ints : ∀ ns ms : List Int, PyData.eqvAll (ns.map .int) (ms.map .int) = decide (ns = ms)
  | [], [] => by simp [PyData.eqvAll]
  | [], _ :: _ => by simp [PyData.eqvAll]
  | _ :: _, [] => by simp [PyData.eqvAll]
  | n :: ns, m :: ms => by
    simp only [List.map, PyData.eqvAll, PyData.eqv, eqvAll_ints ns ms, List.cons.injEq]
    by_cases h : n = m
    · subst h; simp
    · simp [h]
theorem eqv_ints (ns ms : List Int) : PyData.eqv (.list (ns.map .int)) (.list (ms.map .int)) = decide (ns = ms) := by
  simp only [PyData.eqv]; exact eqvAll_ints ns ms
theorem eqv_tints (ns ms : List Int) : PyData.eqv (.tuple (ns.map .int)) (.tuple (ms.map .int)) = decide (ns = ms) := by
  simp only [PyData.eqv]; exact eqvAll_ints ns ms
def rIsiW (K : PySem.W.Frag) : List V → Hp → VK → Prop := rIsi K
/-- a value's built-in type -/
inductive TyP (K : PySem.W.Frag) (ps : List HP) : V → String → Prop
  | non : TyP K ps .non "NoneType"
  | bl (c : Bool) : TyP K ps (.bl c) "bool"
  | int (i : Int) : TyP K ps (.int i) "int"
  | str (z : Str) : TyP K ps (.str z) "str"
  | lst {a : Addr} {xs : List V} (m : pt a (.lst xs) ∈ ps) : TyP K ps (.ref a) "list"
  | tup {a : Addr} {xs : List V} (m : pt a (.tup xs) ∈ ps) : TyP K ps (.ref a) "tuple"
  | of {a : Addr} {n : String} (h : ∀ H, Sat H ps → TyX K H (.ref a) (.type n)) : TyP K ps (.ref a) n
theorem TyP.tyx {n : String} (h : TyP K ps x n) {H : Hp} (s : Sat H ps) : TyX K H x (.type n) := by
  cases h with
  | non => exact .base .non
  | bl c => exact .base (.bl c)
  | int i => exact .base (.int i)
  | str z => exact .base (.str z)
  | lst m => exact .base (.lst (s.get m))
  | tup m => exact .base (.tup (s.get m))
  | of h => exact h H s
theorem wc_isi {n m : String} {c : Bool} (h : TyP K ps x n) (g : kitB n m = some c) (k : Φ (.bl c) ps) : Wc (rIsiW K) [x, .ty m] ps Φ := fun H Q s q =>
  ⟨x, .ty m, .type n, .type m, c, rfl, .ty m, h.tyx s, kit_ty g, q _ _ _ k s⟩
/-- the script lies at a -/
@[irreducible] def scr (K : PySem.W.Frag) (a : Addr) (ns : List Int) : HP := fun L => (∃ o, L = [(a, .frz o (.lst (ns.map V.int)))]) ∨ (L = [(a, .lst (ns.map V.int))]) ∨ (L = [] ∧ ∀ H : Hp, SqL K H a (ns.map V.int))
theorem rdl_scr {ns : List Int} (m : scr K a ns ∈ ps) : RdL K ps a (ns.map V.int) := by
  unfold RdL
  intro H s
  unfold Sat at s
  obtain ⟨L, hO, hL⟩ := s
  obtain ⟨L1, h1, k⟩ := stars_mem m hL
  unfold scr at h1
  rcases h1 with ⟨o, rfl⟩ | rfl | ⟨_, h⟩
  · exact .inl (.inr ⟨o, hO.2 _ (k _ (List.mem_cons_self ..))⟩)
  · exact .inl (.inl (hO.2 _ (k _ (List.mem_cons_self ..))))
  · exact h H
theorem Sat.scr {ns : List Int} {H : Hp} (h : SqL K H a (ns.map V.int)) : Sat H [Sp.scr K a ns] := by
  unfold Sat
  rcases h with (h | ⟨o, h⟩) | h
  · refine ⟨[(a, .lst (ns.map V.int))], ⟨by simp, ?_⟩, [(a, .lst (ns.map V.int))], [], rfl, ?_, rfl⟩
    · intro c hc
      obtain rfl := List.mem_singleton.mp hc
      exact h
    · unfold Sp.scr; exact .inr (.inl rfl)
  · refine ⟨[(a, .frz o (.lst (ns.map V.int)))], ⟨by simp, ?_⟩, [(a, .frz o (.lst (ns.map V.int)))], [], rfl, ?_, rfl⟩
    · intro c hc
      obtain rfl := List.mem_singleton.mp hc
      exact h
    · unfold Sp.scr; exact .inl ⟨o, rfl⟩
  · exact ⟨[], ⟨List.nodup_nil, fun c hc => nomatch hc⟩, [], [], rfl, by unfold Sp.scr; exact .inr (.inr ⟨rfl, fun _ => .inr h⟩), rfl⟩
/-- what draws are made of: the numbers don't matter -/
@[irreducible] def dice (p a : Addr) : HP := exh fun (z : Int × Int × Int) => pt p (.lst [.int z.1, .ref a, .int z.2.1, .int z.2.2])
theorem Ent.dice {p a : Addr} {x j b : Int} : Ent (pt p (.lst [.int x, .ref a, .int j, .int b]) :: R) (Sp.dice p a :: R) := by
  unfold Sp.dice
  exact Ent.ex (f := fun (z : Int × Int × Int) => pt p (.lst [.int z.1, .ref a, .int z.2.1, .int z.2.2])) (x, j, b)
theorem Ws.dice {ts : TS} {nx : PN} {rt : V → List HP → Prop} {bk ct : PN} {p a : Addr} (h : ∀ x j b, Ws ts nx rt bk ct σ (pt p (.lst [.int x, .ref a, .int j, .int b]) :: ps)) : Ws ts nx rt bk ct σ (Sp.dice p a :: ps) := by
  unfold Sp.dice
  exact Ws.ex fun z => h z.1 z.2.1 z.2.2
end
end Sp
namespace Sp
theorem getD_lt {α : Type} {xs : List α} {i : Nat} {d : α} (h : i < xs.length) : xs[i]? = some (xs.getD i d) := by
  rw [List.getD_eq_getElem?_getD, List.getElem?_eq_getElem h]; rfl
theorem getD_ge {α : Type} {xs : List α} {i : Nat} {d : α} (h : xs.length ≤ i) : xs.getD i d = d := by
  rw [List.getD_eq_getElem?_getD, List.getElem?_eq_none h]; rfl
theorem map_at {α β : Type} {f : α → β} {xs : List α} {i : Nat} {x : α} (h : xs[i]? = some x) : (xs.map f)[i]? = some (f x) := by
  rw [List.getElem?_map, h]; rfl
end Sp
namespace Sp
open PySem PySem.Spec PyProof.Rows L2
theorem wst_Lz {ps ps' : List HP} {a : Addr} {xs : List V} {y : V} {i : Int} {Ψ : List HP → Prop} (m : Rep (pt a (.lst xs)) (pt a (.lst (xs.set i.toNat y))) ps ps') (h : 0 ≤ i) (l : i.toNat < xs.length) (k : Ψ ps') : Wst rSetL (.ref a) (.int i) y ps Ψ :=
  wst_L (n := i.toNat) m (Int.toNat_of_nonneg h).symm l k
theorem cmul_if {c : Bool} {j : Int} : CMul (if c = true then 1 else 0) j := by
  cases c
  · exact Or.inl ⟨by decide, by decide⟩
  · exact Or.inl ⟨by decide, by decide⟩
end Sp
namespace Sp
open PySem PySem.Spec PyProof.Rows L2
theorem RdL.cons {K : PySem.W.Frag} {c : HP} {R : List HP} {a : Addr} {xs : List V} (h : RdL K R a xs) : RdL K (c :: R) a xs := RdL.ent Ent.drop h
theorem RdT.cons {K : PySem.W.Frag} {c : HP} {R : List HP} {a : Addr} {xs : List V} (h : RdT K R a xs) : RdT K (c :: R) a xs := RdT.ent Ent.drop h
theorem mod_nat {i m : Int} (h : 0 < m) : ∃ r : Nat, i % m = (r : Int) ∧ (r : Int) < m := ⟨(i % m).toNat, (Int.toNat_of_nonneg (Int.emod_nonneg _ (by omega))).symm, by
  rw [Int.toNat_of_nonneg (Int.emod_nonneg _ (by omega))]; exact Int.emod_lt_of_pos _ h⟩
end Sp
namespace Sp
open PySem PySem.Spec PyProof.Rows L2
theorem snocI (row : List Int) (x : Int) : row.map V.int ++ [.int x] = (row ++ [x]).map V.int := by rw [List.map_append]; rfl
end Sp
namespace Sp
open PySem PySem.Spec PyProof.Rows L2
section
variable {ts tz : TS} {nx : PN} {rt : V → List HP → Prop} {bk ct : PN} {σ : L2.St} {ps : List HP}
theorem ws_word (Mid : PN) (h : Ws ts Mid rt bk ct σ ps) (k : ∀ σ ps, Mid σ ps → Ws tz nx rt bk ct σ ps) : Ws (Evl.tCut ts tz) nx rt bk ct σ ps := fun H D' s l =>
  ⟨fun σ' H' => ∃ ps', Mid σ' ps' ∧ Sat H' ps', h H _ s ⟨fun σ' ps' H' k s' => ⟨ps', k, s'⟩, l.rt, l.bk, l.ct⟩, fun σ' H' ⟨ps', m, s'⟩ => k σ' ps' m H' D' s' l⟩
theorem ws_plain (h : Ws ts (fun σ' ps' => Ws tz nx rt bk ct σ' ps') rt bk ct σ ps) : Ws (Evl.tCut ts tz) nx rt bk ct σ ps := ws_word _ h fun _ _ x => x
theorem wg_nil {g : TG} {v : V} {Φ : PN} (h : Wg g v σ ps Φ) : Wg g v σ ([] ++ ps) Φ := h
theorem wg_one {g : TG} {v : V} {c : HP} {Φ : PN} (h : Wg g v σ (c :: ps) Φ) : Wg g v σ ([c] ++ ps) Φ := h
end
end Sp
namespace Sp
open PySem PySem.Spec PyProof.Rows L2
theorem Wg.ent {g : TG} {v : V} {σ : L2.St} {ps ps' ex : List HP} {Φ : PN} (e : Ent ps ps') (h : Wg g v σ (ex ++ ps') Φ) : Wg g v σ (ex ++ ps) Φ := fun H Q s k => h H Q (Ent.app e H s) k
/-- the parts that are told are there -/
theorem Ent.of {cs ps R : List HP} (h : Picks cs ps R) : Ent ps cs := (Ent.picks h).trans ((Ent.perm List.perm_append_comm).trans Ent.dropAll)
end Sp
namespace Sp
open PySem PySem.Spec PyProof.Rows L2
theorem rdd_nil {K : PySem.W.Frag} {ps : List HP} {a : Addr} (h : RdL K ps a []) : RdD K ps (.ref a) (.list []) := rdd_ints (ns := []) h
end Sp
namespace Sp
theorem iteNT {A B : Prop} (h : B) : if (!true) = true then A else B := h
theorem iteNF {A B : Prop} (h : A) : if (!false) = true then A else B := h
end Sp
namespace Sp
theorem iteTe {b : Bool} {A B : Prop} (e : b = true) (h : A) : if b = true then A else B := by subst e; exact h
theorem iteFe {b : Bool} {A B : Prop} (e : b = false) (h : B) : if b = true then A else B := by subst e; exact iteF' h
where
  iteF' {A B : Prop} (h : B) : if false = true then A else B := h
end Sp
set_option Elab.async false
set_option linter.all false
set_option maxRecDepth 100000
set_option maxHeartbeats 4000000
namespace Sp
open PySem PySem.Spec PyProof.Rows L2
section
variable {κ : Type} [DecidableEq κ]
theorem valV_of : ∀ {kvs : List (κ × V)} {k : κ} {v : V}, (kvs.map (·.1)).Nodup → (k, v) ∈ kvs → valV kvs k = some v
  | [], _, _, _, m => nomatch m
  | (g, x) :: r, k, v, nd, m => by
    have nd' : (g :: r.map (·.1)).Nodup := nd
    obtain ⟨n1, n2⟩ := List.nodup_cons.mp nd'
    rcases List.mem_cons.mp m with e | m2
    · cases e
      exact valV_pos rfl
    · have hne : ¬ g = k := by
        rintro rfl
        exact n1 (List.mem_map.mpr ⟨(g, v), m2, rfl⟩)
      rw [valV_neg hne]
      exact valV_of n2 m2
/-- a value stored under a key that is there -/
inductive KPut (k : κ) (y : V) : List (κ × V) → List (κ × V) → Prop
  | hd {x : V} {r : List (κ × V)} : KPut k y ((k, x) :: r) ((k, y) :: r)
  | tl {g : κ} {x : V} {r r' : List (κ × V)} (h : KPut k y r r') : KPut k y ((g, x) :: r) ((g, x) :: r')
theorem KPut.keys {k : κ} {y : V} {kvs kvs' : List (κ × V)} (h : KPut k y kvs kvs') : kvs'.map (·.1) = kvs.map (·.1) ∧ k ∈ kvs.map (·.1) := by
  induction h with
  | hd => exact ⟨rfl, List.mem_cons_self ..⟩
  | tl _ ih => exact ⟨by rw [List.map_cons, List.map_cons, ih.1], List.mem_cons_of_mem _ ih.2⟩
theorem putK_in {k : κ} {y : V} {kvs : List (κ × V)} (h : k ∈ kvs.map (·.1)) : putK kvs k y = kvs.map (fun kv => if kv.1 = k then (kv.1, y) else kv) := by
  unfold putK
  rw [if_pos]
  obtain ⟨p, hp, e⟩ := List.mem_map.mp h
  exact List.any_eq_true.mpr ⟨p, hp, decide_eq_true e⟩
theorem map_out {k : κ} {y : V} : ∀ {kvs : List (κ × V)}, k ∉ kvs.map (·.1) → kvs.map (fun kv => if kv.1 = k then (kv.1, y) else kv) = kvs
  | [], _ => rfl
  | (g, x) :: r, h => by
    have hne : ¬ g = k := fun e => h (by subst e; exact List.mem_cons_self ..)
    rw [List.map_cons, map_out fun m => h (List.mem_cons_of_mem _ m)]
    simp [hne]
theorem KPut.eq {k : κ} {y : V} {kvs kvs' : List (κ × V)} (h : KPut k y kvs kvs') (nd : (kvs.map (·.1)).Nodup) : putK kvs k y = kvs' := by
  rw [putK_in h.keys.2]
  induction h with
  | @hd x r =>
    have nd' : (k :: r.map (·.1)).Nodup := nd
    rw [List.map_cons, map_out (List.nodup_cons.mp nd').1]
    simp
  | @tl g x r r' h ih =>
    have nd' : (g :: r.map (·.1)).Nodup := nd
    obtain ⟨n1, n2⟩ := List.nodup_cons.mp nd'
    have hne : ¬ g = k := fun e => n1 (by subst e; exact h.keys.2)
    rw [List.map_cons, ih n2]
    simp [hne]
end
section
variable {K : PySem.W.Frag} {ps ps' R : List HP} {Φ : V → List HP → Prop} {a : Addr} {v y : V} {kvs kvs' : List (Key × V)} {z : Str}
theorem dgetS (m : pt a (.dK kvs) ∈ ps) (nd : (kvs.map (·.1)).Nodup) (h : (Sum.inr z, v) ∈ kvs) (k : Φ v ps) : DGetG (.ref a) (.str z) ps Φ :=
  ⟨a, v, rfl, by rw [← valV_of nd h]; exact dgetK (q := Sum.inr z) m rfl, k⟩
theorem dputS {k : List HP → Prop} (nd : (kvs.map (·.1)).Nodup) (h : KPut (Sum.inr z) v kvs kvs') (m0 : pt a (.dK kvs) ∈ ps) (m : Rep (pt a (.dK kvs)) (pt a (.dK kvs')) ps ps') (l : kvs.length < sizeLine) (q : k ps') : DPutG (.ref a) (.str z) v ps k := by
  have e := h.eq nd
  exact dputK (q := Sum.inr z) (kvs := kvs) rfl (by rw [e]; exact m) l q
theorem wp_nil {σ : L2.St} {Φ : List (V × V) → List HP → Prop} (k : Φ [] ps) : Wp [] σ ps Φ := k
theorem wp_cons {tk tv : TE} {r : List (TE × TE)} {σ : L2.St} {Φ : List (V × V) → List HP → Prop} (h : We tk σ ps fun x ps1 => We tv σ ps1 fun y ps2 => Wp r σ ps2 fun l ps3 => Φ ((x, y) :: l) ps3) : Wp ((tk, tv) :: r) σ ps Φ := h
/-- the pairs of a display as a dict's -/
inductive KVs : List (V × V) → List (Key × V) → Prop
  | nil : KVs [] []
  | str {z : Str} {v : V} {l : List (V × V)} {kvs : List (Key × V)} (h : KVs l kvs) : KVs ((.str z, v) :: l) ((Sum.inr z, v) :: kvs)
  | int {i : Int} {v : V} {l : List (V × V)} {kvs : List (Key × V)} (h : KVs l kvs) : KVs ((.int i, v) :: l) ((Sum.inl i, v) :: kvs)
theorem KVs.eq {l : List (V × V)} {kvs : List (Key × V)} (h : KVs l kvs) : l = kvs.map fun kv => (kV kv.1, kv.2) := by
  induction h with
  | nil => rfl
  | str _ ih => rw [ih]; rfl
  | int _ ih => rw [ih]; rfl
theorem mergeK_nd {kvs : List (Key × V)} : ∀ {acc : List (Key × V)}, ((acc ++ kvs).map (·.1)).Nodup → mergeK acc kvs = acc ++ kvs := by
  induction kvs with
  | nil => intro acc _; simp [mergeK]
  | cons p r ih =>
    intro acc nd
    have hn : valV acc p.1 = none := by
      cases e : valV acc p.1 with
      | none => rfl
      | some v =>
        have m := valV_in e
        rw [List.map_append, List.nodup_append] at nd
        exact absurd rfl (nd.2.2 p.1 m p.1 (by simp))
    have e1 : mergeK acc (p :: r) = mergeK (acc ++ [p]) r := by
      show mergeK (putK acc p.1 p.2) r = _
      rw [putK_new p.2 hn]
    rw [e1, ih (by simpa using nd)]
    simp
theorem we_dispS {trs : List (TE × TE)} {σ : L2.St} (h : ∀ p, Wp trs σ (pt p (.dK []) :: ps) fun l ps1 => ∃ (kvs : List (Key × V)) (ps2 : List HP), KVs l kvs ∧ (kvs.map (·.1)).Nodup ∧ kvs.length ≤ 15 ∧ Rep (pt p (.dK [])) (pt p (.dK kvs)) ps1 ps2 ∧ Φ (.ref p) ps2) : We (tDisp trs) σ ps Φ := by
  intro H Q s q p hp
  refine wp_run (h p) _ _ (s.new hp) fun l ps1 H1 ⟨kvs, ps2, e, nd, hl, m, k⟩ s1 => ⟨s1.get m.mem, kvs, e.eq, hl, ?_⟩
  have e1 : mergeK [] kvs = kvs := by
    rw [mergeK_nd (by simpa using nd)]; rfl
  rw [e1]
  exact q _ _ _ k (s1.rep m)
/-- the end of a display -/
def DispG (p : Addr) (l : List (V × V)) (ps1 : List HP) (k : List HP → Prop) : Prop := ∃ (kvs : List (Key × V)) (ps2 : List HP), KVs l kvs ∧ (kvs.map (·.1)).Nodup ∧ kvs.length ≤ 15 ∧ Rep (pt p (.dK [])) (pt p (.dK kvs)) ps1 ps2 ∧ k ps2
theorem dispG {p : Addr} {l : List (V × V)} {ps1 ps2 : List HP} {k : List HP → Prop} {kvs : List (Key × V)} (e : KVs l kvs) (nd : (kvs.map (·.1)).Nodup) (hl : kvs.length ≤ 15) (m : Rep (pt p (.dK [])) (pt p (.dK kvs)) ps1 ps2) (h : k ps2) : DispG p l ps1 k := ⟨kvs, ps2, e, nd, hl, m, h⟩
theorem we_dispG {trs : List (TE × TE)} {σ : L2.St} (h : ∀ p, Wp trs σ (pt p (.dK []) :: ps) fun l ps1 => DispG p l ps1 (Φ (.ref p))) : We (tDisp trs) σ ps Φ := we_dispS h
end
inductive Deed where
  | one | count | set (n : Nat) | look | add (n : Nat) | sum | raise (n : Nat) | top | give (n : Nat) | take
  deriving DecidableEq
def Deed.word : Deed → Str
  | .one => "one" | .count => "count" | .set _ => "set" | .look => "look" | .add _ => "add" | .sum => "sum" | .raise _ => "raise" | .top => "top" | .give _ => "give" | .take => "take"
def Deed.vals : Deed → List V
  | .one => [.str "one"] | .count => [.str "count"] | .set n => [.str "set", .int n] | .look => [.str "look"] | .add n => [.str "add", .int n] | .sum => [.str "sum"]
  | .raise n => [.str "raise", .int n] | .top => [.str "top"] | .give n => [.str "give", .int n] | .take => [.str "take"]
/-- numbers are below a thousand -/
def Deed.ok : Deed → Prop
  | .set n => n < 1000 | .add n => n < 1000 | .raise n => n < 1000 | .give n => n < 1000 | _ => True
/-- the words, by name -/
inductive Wd where
  | one | count | set | look | add | sum | raise | top | give | take
  deriving DecidableEq
def Wd.str : Wd → Str
  | .one => "one" | .count => "count" | .set => "set" | .look => "look" | .add => "add" | .sum => "sum" | .raise => "raise" | .top => "top" | .give => "give" | .take => "take"
def Deed.wd : Deed → Wd
  | .one => .one | .count => .count | .set _ => .set | .look => .look | .add _ => .add | .sum => .sum | .raise _ => .raise | .top => .top | .give _ => .give | .take => .take
end Sp
namespace Sp
open PySem PySem.Spec PyProof.Rows L2
inductive Drops : List HP → List HP → Prop
  | refl {R : List HP} : Drops R R
  | tl {c : HP} {r R : List HP} (h : Drops r R) : Drops (c :: r) R
theorem Drops.ent {a b : List HP} (h : Drops a b) : Ent a b := by
  induction h with
  | refl => exact Ent.rf
  | tl _ ih => exact Ent.drop.trans ih
/-- what is wanted is there (the rest may go) -/
def Keep (ps t : List HP) : Prop := Ent ps t
theorem Keep.nil {ps : List HP} : Keep ps [] := fun H _ => Sat.nil
theorem Keep.rest {ps R : List HP} (h : Drops ps R) : Keep ps R := h.ent
theorem Keep.cons {c : HP} {ps R1 t : List HP} (h : Pick c ps R1) (k : Keep R1 t) : Keep ps (c :: t) := (Ent.perm h.perm).trans (Ent.cons k)
theorem Keep.fold {ps qs ts : List HP} (e : Ent qs ts) (k : Keep ps qs) : Keep ps ts := Ent.trans k e
theorem Ent.keep {ps t : List HP} (h : Keep ps t) : Ent ps t := h
end Sp
set_option Elab.async false
set_option linter.all false
set_option maxRecDepth 100000
set_option maxHeartbeats 4000000
namespace Sp
open PySem PySem.Spec PyProof.Rows L2
section
variable {K : PySem.W.Frag} {ps ps' R : List HP} {Φ : V → List HP → Prop} {a b : Addr} {ns ms : List Int} {i x : Int}
theorem w2_ixI (h : RdL K ps a (ns.map V.int)) (g : 0 ≤ i ∧ i < (ns.length : Int)) (k : Φ (.int (ns.getD i.toNat 0)) ps) : W2 (rIxL K) (.ref a) (.int i) ps Φ := by
  obtain ⟨j, rfl⟩ : ∃ j : Nat, i = j := ⟨i.toNat, (Int.toNat_of_nonneg g.1).symm⟩
  rw [Int.toNat_natCast] at k
  exact w2_ixL h (atI_nat (j := j) (map_at (getD_lt (by omega)))) k
theorem wst_LI {Ψ : List HP → Prop} (m : Rep (pt a (.lst (ns.map V.int))) (pt a (.lst ((ns.set i.toNat x).map V.int))) ps ps') (g : 0 ≤ i ∧ i < (ns.length : Int)) (k : Ψ ps') : Wst rSetL (.ref a) (.int i) (.int x) ps Ψ := by
  rw [List.map_set] at m
  exact wst_Lz m g.1 (by rw [List.length_map]; omega) k
theorem wm_appendI (m : Rep (pt a (.lst (ns.map V.int))) (pt a (.lst ((ns ++ [x]).map V.int))) ps ps') (l : ns.length < sizeLine) (k : Φ .non ps') : Wm rAppend (.ref a) [.int x] ps Φ := by
  rw [← snocI] at m
  exact wm_append m (by rw [List.length_map]; exact l) k
theorem wm_pop0I (m : Rep (pt a (.lst ((x :: ns).map V.int))) (pt a (.lst (ns.map V.int))) ps ps') (k : Φ (.int x) ps') : Wm rPopAt (.ref a) [.int 0] ps Φ :=
  wm_popAt (n := 0) (y := .int x) (xs := (x :: ns).map V.int) m rfl rfl (by decide) k
theorem w2_repI {n : Int} (m : pt a (.lst [.int x]) ∈ ps) (h : 0 ≤ n ∧ n ≤ 1000000) (k : ∀ p, Φ (.ref p) (pt p (.lst ((List.replicate n.toNat x).map V.int)) :: ps)) : W2 rRep (.ref a) (.int n) ps Φ := by
  refine w2_rep m (by omega) (by omega) ?_ fun p => ?_
  · have : sizeLine ≥ 1000000 := by decide
    simp only [List.length_cons, List.length_nil]; omega
  · have e : (List.replicate n.toNat [V.int x]).flatten = (List.replicate n.toNat x).map V.int := by
      rw [List.map_replicate]
      induction n.toNat with
      | zero => rfl
      | succ j ih => rw [List.replicate_succ, List.flatten_cons, ih, List.replicate_succ]; rfl
    rw [e]; exact k p
theorem w2_eqNil (h : RdL K ps a (ns.map V.int)) (g : RdL K ps b []) (k : Φ (.bl (decide (ns = []))) ps) : W2 (rEqD K) (.ref a) (.ref b) ps Φ :=
  w2_eqD (rdd_ints h) (rdd_ints (ns := []) g) (by rw [eqv_ints]; exact k)
theorem w2_neNil (h : RdL K ps a (ns.map V.int)) (g : RdL K ps b []) (k : Φ (.bl (!decide (ns = []))) ps) : W2 (rNeD K) (.ref a) (.ref b) ps Φ :=
  w2_neD (rdd_ints h) (rdd_ints (ns := []) g) (by rw [eqv_ints]; exact k)
theorem w2_ixM {α : Type} {K : PySem.W.Frag} {ps : List HP} {Φ : V → List HP → Prop} {a : Addr} {f : α → V} {xs : List α} {i : Int} (h : RdL K ps a (xs.map f)) (g : 0 ≤ i ∧ i < (xs.length : Int)) (k : ∀ x, xs[i.toNat]? = some x → Φ (f x) ps) : W2 (rIxL K) (.ref a) (.int i) ps Φ := by
  obtain ⟨j, rfl⟩ : ∃ j : Nat, i = j := ⟨i.toNat, (Int.toNat_of_nonneg g.1).symm⟩
  have hj : j < xs.length := by omega
  exact w2_ixL h (atI_nat (j := j) (map_at (List.getElem?_eq_getElem hj))) (k _ (by rw [Int.toNat_natCast]; exact List.getElem?_eq_getElem hj))
theorem cmul_if2 {c : Bool} {j : Int} : CMul j (if c = true then 1 else 0) := by
  cases c
  · exact Or.inr ⟨by decide, by decide⟩
  · exact Or.inr ⟨by decide, by decide⟩
def wds : List Wd := [.one, .count, .set, .look, .add, .sum, .raise, .top, .give, .take]
/-- the greatest of a row -/
def topOf (l : List Int) : Int := (l.max?).getD 0
theorem topOf_eq {l : List Int} {m : Int} (h1 : m ∈ l) (h2 : ∀ y, y ∈ l → y ≤ m) : topOf l = m := by
  unfold topOf
  rw [List.max?_eq_some_iff.mpr ⟨h1, h2⟩]; rfl
theorem wc_topI (h : RdL K ps a (ns.map V.int)) (l : 0 < ns.length) (k : Φ (.int (topOf ns)) ps) : Wc (rMax K) [.ref a] ps Φ :=
  wc_max h l fun m h1 h2 => by rw [← topOf_eq h1 h2]; exact k
end
section
variable {ps : List HP} {Φ : V → List HP → Prop} {i j : Int}
theorem dec_int : decide (V.int i = V.int j) = decide (i = j) := by
  by_cases h : i = j
  · subst h; simp
  · simp [h]
theorem w2_eqI (k : Φ (.bl (decide (i = j))) ps) : W2 rEq (.int i) (.int j) ps Φ := w2_eq rfl (by rw [dec_int]; exact k)
theorem w2_neI (k : Φ (.bl (!decide (i = j))) ps) : W2 rNe (.int i) (.int j) ps Φ := w2_ne rfl (by rw [dec_int]; exact k)
end
theorem w2_eqDI {K : PySem.W.Frag} {ps : List HP} {Φ : V → List HP → Prop} {i j : Int} (k : Φ (.bl (decide (i = j))) ps) : W2 (rEqD K) (.int i) (.int j) ps Φ := w2_eqD rdd_int rdd_int (by
  have e : PyData.eqv (.int i) (.int j) = decide (i = j) := by by_cases h : i = j <;> simp [PyData.eqv, h]
  rw [e]; exact k)
theorem w2_neDI {K : PySem.W.Frag} {ps : List HP} {Φ : V → List HP → Prop} {i j : Int} (k : Φ (.bl (!decide (i = j))) ps) : W2 (rNeD K) (.int i) (.int j) ps Φ := w2_neD rdd_int rdd_int (by
  have e : PyData.eqv (.int i) (.int j) = decide (i = j) := by by_cases h : i = j <;> simp [PyData.eqv, h]
  rw [e]; exact k)
theorem iteFd {c : Prop} [Decidable c] {A B : Prop} (h : ¬ c) (k : B) : if decide c = true then A else B := iteD (fun z => absurd z h) fun _ => k
theorem iteTd {c : Prop} [Decidable c] {A B : Prop} (h : c) (k : A) : if decide c = true then A else B := iteD (fun _ => k) fun z => absurd h z
theorem iteNFd {c : Prop} [Decidable c] {A B : Prop} (h : ¬ c) (k : A) : if (!decide c) = true then A else B := iteND (fun _ => k) fun z => absurd z h
theorem iteNTd {c : Prop} [Decidable c] {A B : Prop} (h : c) (k : B) : if (!decide c) = true then A else B := iteND (fun z => absurd h z) fun _ => k
inductive Ans where
  | non | int (i : Int) | view (l : List Int)
  deriving DecidableEq
@[irreducible] def ansC (v : V) : Ans → HP
  | .non => pur (v = .non)
  | .int i => pur (v = .int i)
  | .view l => exh fun p => grp [pur (v = .ref p), pt p (.tup (l.map V.int))]
section
variable {ts : TS} {nx : PN} {rt : V → List HP → Prop} {bk ct : PN} {σ : L2.St} {v : V} {ps R : List HP} {an : Ans} {p : Addr} {l : List Int} {i : Int}
theorem ansN : Ent R (ansC .non .non :: R) := fun H s => by unfold ansC; exact Sat.pur.mpr ⟨rfl, s⟩
theorem ansI : Ent R (ansC (.int i) (.int i) :: R) := fun H s => by unfold ansC; exact Sat.pur.mpr ⟨rfl, s⟩
theorem ansT : Ent (pt p (.tup (l.map V.int)) :: R) (ansC (.ref p) (.view l) :: R) := fun H s => by
  unfold ansC
  exact Sat.ex.mpr ⟨p, Sat.grp.mpr (Sat.pur.mpr ⟨rfl, s⟩)⟩
theorem Ws.ans (h0 : an = .non → v = .non → Ws ts nx rt bk ct σ ps) (h1 : ∀ i, an = .int i → v = .int i → Ws ts nx rt bk ct σ ps) (h2 : ∀ l p, an = .view l → v = .ref p → Ws ts nx rt bk ct σ (pt p (.tup (l.map V.int)) :: ps)) : Ws ts nx rt bk ct σ (ansC v an :: ps) := by
  cases an with
  | non => unfold ansC; exact Ws.pur fun e => h0 rfl e
  | int i => unfold ansC; exact Ws.pur fun e => h1 i rfl e
  | view l => unfold ansC; exact Ws.ex fun p => Ws.grp (Ws.pur fun e => h2 l p rfl e)
end
structure Pst where
  ones : Int
  cells : List Int
  sums : List Int
  tops : List Int
  line : List Int
def Pst.new (m : Nat) : Pst := ⟨0, List.replicate m 0, List.replicate m 0, List.replicate m 0, []⟩
def Pst.ans (s : Pst) : Deed → Ans
  | .count => .int s.ones
  | .look => .view s.cells
  | .sum => .int s.sums.sum
  | .top => .int (topOf s.tops)
  | .take => match s.line with | [] => .non | x :: _ => .int x
  | _ => .non
def Deed.changes : Deed → Prop
  | .one => True | .set _ => True | .add _ => True | .raise _ => True | .give _ => True | _ => False
instance (d : Deed) : Decidable d.changes := by cases d <;> unfold Deed.changes <;> infer_instance
/-- an object of class Plain -/
@[irreducible] def plainC {K : PySem.W.Frag} {names : List Str} (I : CI K names) (a : Addr) (m : Nat) (s : Pst) : HP :=
  exh fun q : Addr × Addr × Addr × Addr => grp [obj I a [("many", .int m), ("counted", .int s.ones), ("cells", .ref q.1), ("sums", .ref q.2.1), ("tops", .ref q.2.2.1), ("line", .ref q.2.2.2)],
    pt q.1 (.lst (s.cells.map V.int)), pt q.2.1 (.lst (s.sums.map V.int)), pt q.2.2.1 (.lst (s.tops.map V.int)), pt q.2.2.2 (.lst (s.line.map V.int))]
/-- the law's own: a dict -/
@[irreducible] def dictC (a : Addr) (s : Pst) : HP :=
  exh fun q : Addr × Addr × Addr × Addr => grp [pt a (.dK [(Sum.inr "ones", .int s.ones), (Sum.inr "set", .ref q.1), (Sum.inr "add", .ref q.2.1), (Sum.inr "raise", .ref q.2.2.1), (Sum.inr "line", .ref q.2.2.2)]),
    pt q.1 (.lst (s.cells.map V.int)), pt q.2.1 (.lst (s.sums.map V.int)), pt q.2.2.1 (.lst (s.tops.map V.int)), pt q.2.2.2 (.lst (s.line.map V.int))]
section
variable {K : PySem.W.Frag} {names : List Str} {I : CI K names} {ts : TS} {nx : PN} {rt : V → List HP → Prop} {bk ct : PN} {σ : L2.St} {ps R : List HP} {a q1 q2 q3 q4 : Addr} {m : Nat} {s : Pst}
theorem Ent.plainC {o : Int} {cs ss tt l : List Int} : Ent (obj I a [("many", .int m), ("counted", .int o), ("cells", .ref q1), ("sums", .ref q2), ("tops", .ref q3), ("line", .ref q4)] ::
    pt q1 (.lst (cs.map V.int)) :: pt q2 (.lst (ss.map V.int)) :: pt q3 (.lst (tt.map V.int)) :: pt q4 (.lst (l.map V.int)) :: R) (Sp.plainC I a m ⟨o, cs, ss, tt, l⟩ :: R) := fun H z => by
  unfold Sp.plainC
  exact Sat.ex.mpr ⟨(q1, q2, q3, q4), Sat.grp.mpr z⟩
theorem methPlain {f : Str} {k : List HP → Prop} (h : Sp.plainC I a m s ∈ ps) (p : (["many", "counted", "cells", "sums", "tops", "line"] : List Str) = names) (n : f ∉ names) (q : k ps) : MethG I.C f (.ref a) ps k :=
  methC h (fun H R z => by
    unfold Sp.plainC at z
    obtain ⟨x, z⟩ := Sat.ex.mp z
    obtain ⟨dx, e⟩ := (Sat.grp.mp z).obj (List.mem_cons_self ..)
    exact ⟨dx, _, e, lookup_not fun y => n (by rw [← p]; exact y)⟩) q
theorem Ent.dictC {o : Int} {cs ss tt l : List Int} : Ent (pt a (.dK [(Sum.inr "ones", .int o), (Sum.inr "set", .ref q1), (Sum.inr "add", .ref q2), (Sum.inr "raise", .ref q3), (Sum.inr "line", .ref q4)]) ::
    pt q1 (.lst (cs.map V.int)) :: pt q2 (.lst (ss.map V.int)) :: pt q3 (.lst (tt.map V.int)) :: pt q4 (.lst (l.map V.int)) :: R) (Sp.dictC a ⟨o, cs, ss, tt, l⟩ :: R) := fun H z => by
  unfold Sp.dictC
  exact Sat.ex.mpr ⟨(q1, q2, q3, q4), Sat.grp.mpr z⟩
end
end Sp
set_option Elab.async false
set_option linter.all false
set_option maxRecDepth 100000
set_option maxHeartbeats 4000000
namespace Sp
open PySem PySem.Spec PyProof.Rows L2
/-- o.m(e, ..): what it raises is wished for at the slots as they stand -/
def tMethS (C : Addr) (m : Str) (sp : L2.Sp) (E : L2.St → XK) (ta : TE) (t : TA) : TE := fun σ H Q => ta σ H fun x H1 => ∃ a dx fs, x = .ref a ∧ H1 a = some (.ins C dx fs) ∧ fs.lookup m = none ∧ t σ H1 fun vs H2 => sp (x :: vs) H2 Q (E σ)
/-- C(e, ..) -/
def tMakeS (C : Addr) (sp : L2.Sp) (E : L2.St → XK) (t : TA) : TE := fun σ H Q => t σ H fun vs H1 => ∀ x dx, H1 x = none → H1 dx = none → dx ≠ x → sp (.ref x :: vs) (upd (upd H1 dx (.own x)) x (.ins C dx [])) (fun v H2 => v = .non ∧ Q (.ref x) H2) (E σ)
theorem pe_makeS {X : Cx} {CX : CXT} {k : Nat} {f C : Addr} {fd : FuncData} {ps : List Str} {sp : L2.Sp} {E : L2.St → XK} {x : Str} {p pos : Pos} {e : Expr} {es : List Expr} {t : TA} (M : Mk X.K C f) (F : FnOk X.prog X.w X.K X.mg X.base CX k f fd ps sp) (hr : Room (k + 1) X.A) (hg : Gl X x) (hm : X.mg x = some (.ref C)) (hb : Binds X.K fd ps []) (hx : ∀ σ, PassesAt CX X σ (E σ))
    (ha : PA X (e :: es) t) (hdb : (x == ("__debug__" : Str)) = false := by decide) (he : starEach (e :: es) X.env = (false, eval e X.env) :: starEach es X.env := by rfl) (hpl : (backTo pos (starEach es X.env)).any (·.1) = false := by rfl) :
    PE X (.Call (.Name x p) (e :: es) [] pos) (tMakeS C sp E t) := by
  refine ⟨fun pins s σ H Q I h => ?_⟩
  refine wpAny_Call_Name_kw (ld_glob I hg hm ?_ hdb)
  refine PySem.W.callWith_K (h₀ := X.base) I.ok.mod.kin M.kp (thn (ha.run pos pins s σ H _ I h) fun us s1 ⟨vs, H1, I1, r, h⟩ => ⟨I1.kIn, ?_⟩) he hpl
  have hq := h (s1.heap.objs.size + 1) s1.heap.objs.size (I1.hok.fresh (Nat.le_succ _)) (I1.hok.fresh (Nat.le_refl _)) (Nat.ne_of_lt (Nat.lt_succ_self _))
  have I2 := Inv.made (C := C) I1
  have r2 : Vals (V.ref (s1.heap.objs.size + 1) :: vs) (Value.ref (s1.heap.objs.size + 1) :: us) := .cons rfl r
  have hl : (Value.ref (s1.heap.objs.size + 1) :: us).length = ps.length := by
    have e := r2.length
    rw [F.len _ _ _ _ hq] at e
    exact e.symm
  have b := hb _ (Value.ref (s1.heap.objs.size + 1) :: us) I2.kIn (by rw [List.append_nil]; exact hl)
  rw [List.append_nil] at b
  refine wpAny_call (make_map (f := f) I1.kIn M.makes M.init (beq_iff_eq.mp M.fn) (codeAny_mono (F.run _ X.stack _ _ ⟨Value.ref (s1.heap.objs.size + 1) :: us, []⟩ (Value.ref (s1.heap.objs.size + 1) :: us) _ _ (E σ) (hr.make C us [])
    (I2.env0.make C us []) b r2 hq) fun r s' hq' => ?_))
  cases r with
  | error e => exact hx σ pins _ _ e s' I2 hq'
  | ok fl =>
    cases fl with
    | ret u =>
      obtain ⟨v, H', I3, rv, ev, q3⟩ := I2.after hq'
      subst ev
      exact ⟨rv, ⟨V.ref (s1.heap.objs.size + 1), H', I3, rfl, q3⟩⟩
    | next => exact False.elim hq'
    | brk => exact False.elim hq'
    | cont => exact False.elim hq'
/-- isinstance(e, (T, ..)) of what is caught -/
def rIsET (K : PySem.W.Frag) (D a : Addr) : List V → Hp → VK → Prop := fun xs H Q => ∃ (t : Addr) (cs : List V) (cvs : List Value) (b : Bool), xs = [.ref a, .ref t] ∧ SqT K H t cs ∧ (∀ us, Vals cs us → us = cvs) ∧ PySem.W.kitAny K (.ref D) cvs = some b ∧ Q (.bl b) H
theorem call_isET {X : Cx} {a D : Addr} {oe : Obj} {pn : List (Addr × Obj)} (C : ExcC X.K D) (hz : Zc (.ref D) none oe) (hf : ∃ vs, oe.data = .fields vs) : CallR (X.suite a ((a, oe) :: pn)) (.builtin "isinstance") (rIsET X.K D a) := by
  intro pins s σ H xs us Q I r h
  obtain ⟨t, cs, cvs, b, rfl, ht, hcv, e, q⟩ := h
  cases r with
  | cons rx rr =>
    cases rr with
    | cons rt rr =>
      cases rr
      cases rx
      cases rt
      obtain ⟨its, rv, p, _⟩ := I.tuple ht
      have ec := hcv _ rv
      subst ec
      obtain ⟨hget, _⟩ := I.pin (a, oe) (List.mem_append.mpr (.inl List.mem_cons_self))
      obtain ⟨vs, hv⟩ := hf
      have J : PySem.W.InstAt s.heap a oe D none := by
        obtain ⟨oc, od, oda, osl⟩ := oe
        obtain ⟨h1, h2⟩ := hz
        dsimp only at h1 h2 hv
        subst h1 h2 hv
        exact ⟨hget, rfl, rfl, trivial⟩
      obtain ⟨ot, hot, hc, n, hd⟩ := p
      obtain ⟨tc, td, tda, tsl⟩ := ot
      dsimp only at hc hd
      subst hc hd
      exact PySem.W.kia_tup (PySem.W.handS_kitx_exc C.hg C.hk C.hs C.hd C.ha C.hn C.ht C.hm) I.kIn J hot e (fun z => nomatch z) fun tk => ⟨.bl b, H, I.kept (t' := tk) fun _ _ z => z, rfl, q⟩
/-- the tries, their parts in sight -/
def tTryAs (K : PySem.W.Frag) (c : Value) (i : Nat) (tb : WX → TS) (ts : Addr → Value → Option Addr → TS) : TS := fun D σ H => tb (wAs K c i ts (fun _ _ _ _ => False) D) D σ H
section
variable {X : Cx} {x n : Str} {c : Value} {i : Nat} {body suite : List Stmt} {b₀ : Stmt} {np pos pos' : Pos} {tb : WX → TS} {ts : Addr → Value → Option Addr → TS}
theorem ps_try_asT (hs : X.stack = X.env :: X.outer) (hf : X.env.frame = some X.env.locals) (hN : X.N.Nodup) (hi : X.N[i]? = some n) (hln : X.env.kindOf n = some .local) (hc : Names X x c)
    (hb : ∀ (W : WX) (pn : List (Addr × Obj)) (xe : Value → Shared → Prop), Takes (X.tr pn xe) W → PassesOwn (model X.prog X.w) X.A X.env xe → PSs (X.tr pn xe) body (tb W))
    (hsu : ∀ (a : Addr) (oe : Obj) (cls : Value) (d : Option Addr) (pn : List (Addr × Obj)), Zc cls d oe → (∃ vs, oe.data = .fields vs) → PSs (X.suite a ((a, oe) :: pn)) (b₀ :: suite) (ts a cls d)) :
    PS X (.Try body [.ExceptHandler (some (.Name x np)) (some n) (b₀ :: suite) pos'] [] [] pos) (tTryAs X.K c i tb ts) := ps_try_as hs hf hN hi hln hc takes0 hb hsu
end
def tWhen (φ : Prop) (t : TS) : TS := fun D σ H => φ ∧ t D σ H
/-- a block whose reading hangs on what is known -/
theorem pss_when {X : Cx} {b : List Stmt} {t : TS} {φ : Prop} (h : φ → PSs X b t) : PSs X b (tWhen φ t) := ⟨fun pins s σ H D I z => (h z.1).run pins s σ H D I z.2⟩
section
variable {K : PySem.W.Frag} {σ : L2.St} {ps ps' R : List HP} {Φ : V → List HP → Prop} {te : TE} {tr : TA} {nx : PN} {rt : V → List HP → Prop} {bk ct : PN} {W : WX} {XP : Value → L2.St → List HP → Prop}
/-- the wish about exceptions, over symbolic heaps -/
def Wish (W : WX) (XP : Value → L2.St → List HP → Prop) : Prop := ∀ c σ ps, XP c σ ps → ∀ H, Sat H ps → W c none σ H
theorem we_callS {S : SX} (hW : Wish W XP) (h : Wa tr σ ps fun vs ps1 => S vs ps1 Φ fun c ps2 => XP c σ ps2) : We (tCallS (spX S) (WE W) tr) σ ps Φ := fun H Q s q => h H _ s fun vs ps1 H1 k s1 =>
  ⟨ps1, Φ, fun c ps2 => XP c σ ps2, s1, k, q, fun c ps' H' x s' => hW c σ ps' x H' s'⟩
theorem we_methS {S : SX} {C : Addr} {m : Str} (hW : Wish W XP) (h : We te σ ps fun x ps1 => MethG C m x ps1 fun ps1 => Wa tr σ ps1 fun vs ps2 => S (x :: vs) ps2 Φ fun c ps3 => XP c σ ps3) : We (tMethS C m (spX S) (WE W) te tr) σ ps Φ := fun H Q s q =>
  h H _ s fun x ps1 H1 g s1 => by
    obtain ⟨a, dx, fs, e1, e2, e3, k⟩ := g.at' s1
    exact ⟨a, dx, fs, e1, e2, e3, k H1 _ s1 fun vs ps2 H2 k2 s2 => ⟨ps2, Φ, fun c ps2 => XP c σ ps2, s2, k2, q, fun c ps' H' x s' => hW c σ ps' x H' s'⟩⟩
theorem we_makeS {S : SX} {names : List Str} {I : CI K names} (hW : Wish W XP) (h : Wa tr σ ps fun vs ps1 => ∀ x, S (.ref x :: vs) (obj I x [] :: ps1) (fun v ps2 => v = .non ∧ Φ (.ref x) ps2) fun c ps3 => XP c σ ps3) : We (tMakeS I.C (spX S) (WE W) tr) σ ps Φ := fun H Q s q =>
  h H _ s fun vs ps1 H1 k s1 x dx hx hdx ne => by
    refine ⟨_, _, _, ?_, k x, fun v ps' H' ⟨e, f⟩ s' => ⟨e, q _ _ _ f s'⟩, fun c ps' H' x s' => hW c σ ps' x H' s'⟩
    have t1 := s1.new (o := .own x) hdx
    have t2 := t1.new (a := x) (o := .ins I.C dx []) (by rw [upd_ne (Ne.symm ne)]; exact hx)
    have t4 := (t2.perm (List.Perm.swap _ _ _)).drop
    unfold Sp.obj
    exact Sat.ex.mpr ⟨dx, t4⟩
theorem ws_raiseE {c : Value} (hW : Wish W XP) (e : Ent ps ps') (h : XP c σ ps') : Ws (fun _ σ H => (fun (_ : L2.St) (H : Hp) (Q : XK) => Q c none H) σ H fun cls d H' => W cls d σ H') nx rt bk ct σ ps := fun H D' s l => hW c σ ps' h H (e H s)
/-- try .. except X as n (n in slot i) -/
theorem ws_try_as {c : Value} {i : Nat} {tb : WX → TS} {ts : Addr → Value → Option Addr → TS} (XP : Value → L2.St → List HP → Prop) (h : ∀ W, Wish W XP → Ws (tb W) nx rt bk ct σ ps)
    (hx : ∀ cls σ' ps', XP cls σ' ps' → PySem.W.exmOne K cls c = some true ∧ ∀ a, Ws (ts a cls none) (fun σ2 ps2 => nx (σ2.set i none) ps2) rt (fun σ2 ps2 => bk (σ2.set i none) ps2) (fun σ2 ps2 => ct (σ2.set i none) ps2) (σ'.set i (some (.ref a))) ps') :
    Ws (tTryAs K c i tb ts) nx rt bk ct σ ps := fun H D' s l =>
  h _ (fun cls σ' ps' x H' s' => ⟨true, (hx cls σ' ps' x).1, fun _ a ha => (hx cls σ' ps' x).2 a H' _ s' ⟨fun σ ps H x s => l.nx _ _ _ x s, l.rt, fun σ ps H x s => l.bk _ _ _ x s, fun σ ps H x s => l.ct _ _ _ x s⟩, fun z => nomatch z⟩) H D' s l
theorem ws_when {ts : TS} {φ : Prop} (h : φ) (k : Ws ts nx rt bk ct σ ps) : Ws (tWhen φ ts) nx rt bk ct σ ps := fun H D' s l => ⟨h, k H D' s l⟩
theorem wc_isE {D a e : Addr} {b : Bool} (h : PySem.W.kitOne K (.ref D) (.ref e) = some b) (k : Φ (.bl b) ps) : Wc (rIsE K D a) [.ref a, .ref e] ps Φ := fun H Q s q => ⟨_, .ref e, b, rfl, fun u r => r, h, q _ _ _ k s⟩
theorem wc_isEV {D a : Addr} {n : String} {b : Bool} (h : PySem.W.kitOne K (.ref D) (.type n) = some b) (k : Φ (.bl b) ps) : Wc (rIsE K D a) [.ref a, .ty n] ps Φ := fun H Q s q => ⟨_, .type n, b, rfl, fun u r => r, h, q _ _ _ k s⟩
theorem vals_refs : ∀ {es : List Addr} {us : List Value}, Vals (es.map V.ref) us → us = es.map Value.ref
  | [], _, r => by cases r; rfl
  | e :: es, _, r => by
    cases r with
    | cons h t => rw [vals_refs t, show _ = Value.ref e from h]; rfl
theorem wc_isET3 {D a t e1 e2 e3 : Addr} (m : pt t (.tup [.ref e1, .ref e2, .ref e3]) ∈ ps) (h1 : PySem.W.kitOne K (.ref D) (.ref e1) = some false) (h2 : PySem.W.kitOne K (.ref D) (.ref e2) = some false) (h3 : PySem.W.kitOne K (.ref D) (.ref e3) = some false) (k : Φ (.bl false) ps) : Wc (rIsET K D a) [.ref a, .ref t] ps Φ := fun H Q s q =>
  ⟨t, _, [e1, e2, e3].map Value.ref, false, rfl, SqT.of (s.get m), fun us r => vals_refs (es := [e1, e2, e3]) r, by simp [PySem.W.kitAny, h1, h2, h3], q _ _ _ k s⟩
end
/-- the wish of a def that may raise -/
theorem Wish.of {E : XK} {Ψ : Value → List HP → Prop} (hE : ∀ c ps' H', Ψ c ps' → Sat H' ps' → E c none H') : Wish (fun cls d _ H => E cls d H) fun c _ ps => Ψ c ps := fun c _ ps x H s => hE c ps H x s
end Sp
set_option Elab.async false
set_option linter.all false
set_option maxRecDepth 100000
set_option maxHeartbeats 4000000
namespace Sp
open PySem PySem.Spec PyProof.Rows L2
/-- tuples that nobody writes -/
@[irreducible] def tups (L : List (Addr × List V)) : HP := grp (L.map fun q => pt q.1 (.tup q.2))
section
variable {K : PySem.W.Frag} {ps R : List HP} {L : List (Addr × List V)} {a : Addr} {xs : List V}
theorem tups_nil : Ent R (tups [] :: R) := fun H s => by unfold tups; exact Sat.grp.mpr s
theorem tups_snoc : Ent (pt a (.tup xs) :: tups L :: R) (tups (L ++ [(a, xs)]) :: R) := fun H s => by
  unfold tups at *
  have s1 := Sat.grp.mp (s.perm (List.Perm.swap _ _ _))
  refine Sat.grp.mpr (s1.perm ?_)
  rw [List.map_append, List.append_assoc]
  exact .refl _
theorem rdt_tups (m : tups L ∈ ps) (h : (a, xs) ∈ L) : RdT K ps a xs := by
  unfold RdT
  intro H s
  obtain ⟨l1, l2, rfl⟩ := List.append_of_mem m
  have p : (l1 ++ tups L :: l2).Perm (tups L :: (l1 ++ l2)) := List.perm_middle
  have s2 := s.perm p
  unfold tups at s2
  exact SqT.of ((Sat.grp.mp s2).get (List.mem_append.mpr (.inl (List.mem_map.mpr ⟨(a, xs), h, rfl⟩))))
end
/-- a touch: taken (or put), the place, the number -/
structure Touch where
  taken : Bool
  place : Int
  number : Int
  deriving DecidableEq
def Touch.word (t : Touch) : Str := match t.taken with
  | true => "take"
  | false => "put"
def Touch.vals (t : Touch) : List V := [.str t.word, .int t.place, .int t.number]
/-- the boxes: their numbers, all touches -/
@[irreducible] def boxC {K : PySem.W.Frag} {names : List Str} (I : CI K names) (a : Addr) (ns : List Int) (log : List Touch) : HP :=
  exh fun q : Addr × Addr × List Addr => grp [pur (q.2.2.length = log.length), obj I a [("many", .int ns.length), ("numbers", .ref q.1), ("log", .ref q.2.1)], pt q.1 (.lst (ns.map V.int)), pt q.2.1 (.lst (q.2.2.map V.ref)), tups (q.2.2.zip (log.map Touch.vals))]
section
variable {K : PySem.W.Frag} {names : List Str} {I : CI K names} {ts : TS} {nx : PN} {rt : V → List HP → Prop} {bk ct : PN} {σ : L2.St} {ps R : List HP} {a q1 q2 : Addr} {ns : List Int} {log : List Touch} {as : List Addr}
theorem open_boxC {H : Hp} (pk : Pick (Sp.boxC I a ns log) ps R) (s : Sat H ps) : ∃ z : Addr × Addr × { as : List Addr // as.length = log.length }, Sat H (obj I a [("many", .int ns.length), ("numbers", .ref z.1), ("log", .ref z.2.1)] :: pt z.1 (.lst (ns.map V.int)) :: pt z.2.1 (.lst (z.2.2.1.map V.ref)) :: tups (z.2.2.1.zip (log.map Touch.vals)) :: R) := by
  have s := s.perm pk.perm
  unfold Sp.boxC at s
  obtain ⟨q, s⟩ := Sat.ex.mp s
  obtain ⟨e, s⟩ := Sat.pur.mp (Sat.grp.mp s)
  exact ⟨⟨q.1, q.2.1, q.2.2, e⟩, s⟩
theorem fldG_box {f : Str} {Φ : V → List HP → Prop} (pk : Pick (Sp.boxC I a ns log) ps R) (h : ∀ (q1 q2 : Addr) (as : List Addr), as.length = log.length → FldG K (.ref a) f (obj I a [("many", .int ns.length), ("numbers", .ref q1), ("log", .ref q2)] :: pt q1 (.lst (ns.map V.int)) :: pt q2 (.lst (as.map V.ref)) :: tups (as.zip (log.map Touch.vals)) :: R) Φ) : FldG K (.ref a) f ps Φ :=
  FldG.open (fun H s => open_boxC pk s) fun z => h z.1 z.2.1 z.2.2.1 z.2.2.2
theorem fldS_box {f : Str} {y : V} {k : List HP → Prop} (pk : Pick (Sp.boxC I a ns log) ps R) (h : ∀ (q1 q2 : Addr) (as : List Addr), as.length = log.length → FldS K (.ref a) f y (obj I a [("many", .int ns.length), ("numbers", .ref q1), ("log", .ref q2)] :: pt q1 (.lst (ns.map V.int)) :: pt q2 (.lst (as.map V.ref)) :: tups (as.zip (log.map Touch.vals)) :: R) k) : FldS K (.ref a) f y ps k :=
  FldS.open (fun H s => open_boxC pk s) fun z => h z.1 z.2.1 z.2.2.1 z.2.2.2
theorem Ent.boxC {m : Int} (e : as.length = log.length) (em : m = ns.length) : Ent (obj I a [("many", .int m), ("numbers", .ref q1), ("log", .ref q2)] :: pt q1 (.lst (ns.map V.int)) :: pt q2 (.lst (as.map V.ref)) :: tups (as.zip (log.map Touch.vals)) :: R) (Sp.boxC I a ns log :: R) := fun H z => by
  subst em
  unfold Sp.boxC
  exact Sat.ex.mpr ⟨(q1, q2, as), Sat.grp.mpr (Sat.pur.mpr ⟨e, z⟩)⟩
theorem Ent.box0 {m : Int} (em : m = ns.length) : Ent (obj I a [("many", .int m), ("numbers", .ref q1), ("log", .ref q2)] :: pt q1 (.lst (ns.map V.int)) :: pt q2 (.lst []) :: R) (Sp.boxC I a ns [] :: R) :=
  Ent.trans (Ent.cons (Ent.cons (Ent.cons tups_nil))) (Ent.boxC (as := []) rfl em)
theorem methBox {f : Str} {k : List HP → Prop} (h : Sp.boxC I a ns log ∈ ps) (p : (["many", "numbers", "log"] : List Str) = names) (n : f ∉ names) (q : k ps) : MethG I.C f (.ref a) ps k :=
  methC h (fun H R z => by
    unfold Sp.boxC at z
    obtain ⟨x, z⟩ := Sat.ex.mp z
    obtain ⟨_, z⟩ := Sat.pur.mp (Sat.grp.mp z)
    obtain ⟨dx, e⟩ := z.obj (List.mem_cons_self ..)
    exact ⟨dx, _, e, lookup_not fun y => n (by rw [← p]; exact y)⟩) q
end
end Sp
set_option Elab.async false
set_option linter.all false
set_option maxRecDepth 100000
set_option maxHeartbeats 4000000
namespace Sp
open PySem PySem.Spec PyProof.Rows L2
/-- what holds holds as g z for some z -/
def Opn {α : Type} (ps : List HP) (g : α → List HP) : Prop := ∀ H, Sat H ps → ∃ z, Sat H (g z)
section
variable {α : Type} {ps ps' R : List HP} {g : α → List HP} {te : TE} {tt : TT} {ta : TA} {ts : TS} {σ : L2.St} {nx : PN} {rt : V → List HP → Prop} {bk ct : PN} {Φ : V → List HP → Prop}
theorem Ws.opn (o : Opn ps g) (h : ∀ z, Ws ts nx rt bk ct σ (g z)) : Ws ts nx rt bk ct σ ps := fun H D s k => let ⟨z, s2⟩ := o H s; h z H D s2 k
theorem Wg.opn {t : TG} {x : V} {Ψ : L2.St → List HP → Prop} (o : Opn ps g) (h : ∀ z, Wg t x σ (g z) Ψ) : Wg t x σ ps Ψ := fun H Q s k => let ⟨z, s2⟩ := o H s; h z H Q s2 k
theorem Opn.ent (e : Ent ps ps') (o : Opn ps' g) : Opn ps g := fun H s => o H (e H s)
end
/-- an answer whose tuple lies in the pool -/
def AnsR (L : List (Addr × List V)) (v : V) : Ans → Prop
  | .non => v = .non
  | .int i => v = .int i
  | .view l => ∃ p, v = .ref p ∧ (p, l.map V.int) ∈ L
theorem AnsR.mono {L L' : List (Addr × List V)} {v : V} {an : Ans} (h : AnsR L v an) (s : ∀ x ∈ L, x ∈ L') : AnsR L' v an := by
  cases an with
  | non => exact h
  | int i => exact h
  | view l => obtain ⟨p, e, m⟩ := h; exact ⟨p, e, s _ m⟩
section
variable {K : PySem.W.Frag} {ps R : List HP} {L : List (Addr × List V)} {v u : V} {an bn : Ans} {a : Addr} {xs : List V} {Φ : V → List HP → Prop}
def Ans.data : Ans → PyData
  | .non => .none
  | .int i => .int i
  | .view l => .tuple (l.map .int)
theorem Ans.eqv (an bn : Ans) : PyData.eqv an.data bn.data = decide (an = bn) := by
  cases an <;> cases bn <;> simp only [Ans.data]
  case int.int i j => by_cases h : i = j <;> simp [PyData.eqv, h]
  case view.view l m => rw [eqv_tints]; simp
  all_goals simp [PyData.eqv]
theorem Ans.shaped (an : Ans) : SeqAt.shaped an.data = true := by
  cases an with
  | non => rfl
  | int i => rfl
  | view l => exact shaped_tints l
theorem rdd_ansR (m : tups L ∈ ps) (h : AnsR L v an) : RdD K ps v an.data := by
  cases an with
  | non => rw [show v = .non from h]; exact rdd_non
  | int i => rw [show v = .int i from h]; exact rdd_int
  | view l =>
    obtain ⟨p, rfl, hp⟩ := h
    exact rdd_tints (rdt_tups m hp)
theorem rdd_ansC (m : ansC v an ∈ ps) : RdD K ps v an.data := by
  unfold RdD
  refine ⟨fun H s => ?_, an.shaped⟩
  obtain ⟨l1, l2, rfl⟩ := List.append_of_mem m
  have p : (l1 ++ ansC v an :: l2).Perm (ansC v an :: (l1 ++ l2)) := List.perm_middle
  have s := s.perm p
  cases an with
  | non =>
    unfold ansC at s
    rw [(Sat.pur.mp s).1]
    exact .non
  | int i =>
    unfold ansC at s
    rw [(Sat.pur.mp s).1]
    exact .int i
  | view l =>
    unfold ansC at s
    obtain ⟨p, s1⟩ := Sat.ex.mp s
    obtain ⟨e, s2⟩ := Sat.pur.mp (Sat.grp.mp s1)
    rw [e]
    exact (rdd_tints (K := K) (rdt_pt (List.mem_cons_self ..))).dp H s2
theorem w2_neA (h1 : RdD K ps v an.data) (h2 : RdD K ps u bn.data) (k : Φ (.bl (!decide (an = bn))) ps) : W2 (rNeD K) v u ps Φ := w2_neD h1 h2 (by rw [Ans.eqv]; exact k)
end
section
variable {K : PySem.W.Frag} {ps R : List HP} {L : List (Addr × List V)} {v u : V} {an bn : Ans} {a : Addr} {xs : List V} {Φ : V → List HP → Prop}
theorem w2_neL {ns ms : List Int} {b : Addr} (h1 : RdL K ps a (ns.map V.int)) (h2 : RdL K ps b (ms.map V.int)) (k : Φ (.bl (!decide (ns = ms))) ps) : W2 (rNeD K) (.ref a) (.ref b) ps Φ := w2_neD (rdd_ints h1) (rdd_ints h2) (by rw [eqv_ints]; exact k)
theorem w2_eqL {ns ms : List Int} {b : Addr} (h1 : RdL K ps a (ns.map V.int)) (h2 : RdL K ps b (ms.map V.int)) (k : Φ (.bl (decide (ns = ms))) ps) : W2 (rEqD K) (.ref a) (.ref b) ps Φ := w2_eqD (rdd_ints h1) (rdd_ints h2) (by rw [eqv_ints]; exact k)
def upto (n : Nat) : List Int := (List.range n).map fun (i : Nat) => (i : Int)
def LrgG (x : V) (k : Addr → Nat → Prop) : Prop := ∃ n : Nat, x = .int n ∧ n ≤ 1000000 ∧ ∀ p, k p n
theorem lrgG {n : Nat} {k : Addr → Nat → Prop} (l : n ≤ 1000000) (h : ∀ p, k p n) : LrgG (.int n) k := ⟨n, rfl, l, h⟩
theorem we_lstRg {te : TE} {σ : L2.St} (h : We te σ ps fun x ps1 => LrgG x fun p n => Φ (.ref p) (pt p (.lst ((upto n).map V.int)) :: ps1)) : We (tLstRg (tRg1 te)) σ ps Φ := fun H Q s q =>
  h H _ s fun x ps1 H1 ⟨n, e, l, k⟩ s1 => by
    refine ⟨n, e, RgOk.of_le (by omega) (by omega) (by omega) (by omega), fun p hp => ?_⟩
    have e1 : rgV 0 n = (upto n).map V.int := by
      unfold rgV upto
      rw [List.map_map]
      have : ((n : Int) - 0).toNat = n := by omega
      rw [this]
      refine List.map_congr_left fun i _ => ?_
      show V.int (0 + (i : Int)) = V.int (i : Int)
      rw [Int.zero_add]
    rw [e1]
    exact q _ _ _ (k p) (s1.new hp)
end
structure Rec where
  hand : Int
  dA : Addr
  deed : Deed
  b : Int
  e : Int
  v : V
  an : Ans
def Rec.vals (r : Rec) : List V := [.int r.hand, .ref r.dA, .int r.b, .int r.e, r.v]
def RecIn (L : List (Addr × List V)) (a : Addr) (r : Rec) : Prop := (a, r.vals) ∈ L ∧ (r.dA, r.deed.vals) ∈ L ∧ AnsR L r.v r.an
theorem RecIn.mono {L L' : List (Addr × List V)} {a : Addr} {r : Rec} (h : RecIn L a r) (s : ∀ x ∈ L, x ∈ L') : RecIn L' a r := ⟨s _ h.1, s _ h.2.1, h.2.2.mono s⟩
/-- records at their addresses -/
def RecsIn (L : List (Addr × List V)) (as : List Addr) (rs : List Rec) : Prop := as.length = rs.length ∧ ∀ (i : Nat) (a : Addr) (r : Rec), as[i]? = some a → rs[i]? = some r → RecIn L a r
theorem RecsIn.mono {L L' : List (Addr × List V)} {as : List Addr} {rs : List Rec} (h : RecsIn L as rs) (s : ∀ x ∈ L, x ∈ L') : RecsIn L' as rs := ⟨h.1, fun i a r h1 h2 => (h.2 i a r h1 h2).mono s⟩
theorem RecsIn.nil {L : List (Addr × List V)} : RecsIn L [] [] := ⟨rfl, fun i a r h => by simp at h⟩
theorem RecsIn.snoc {L : List (Addr × List V)} {as : List Addr} {rs : List Rec} {a : Addr} {r : Rec} (h : RecsIn L as rs) (k : RecIn L a r) : RecsIn L (as ++ [a]) (rs ++ [r]) := ⟨by simp [h.1], fun i a' r' h1 h2 => by
  by_cases hi : i < as.length
  · rw [List.getElem?_append_left hi] at h1
    rw [List.getElem?_append_left (by rw [← h.1]; exact hi)] at h2
    exact h.2 i a' r' h1 h2
  · have hi2 : i < as.length + 1 := by
      have := (List.getElem?_eq_some_iff.mp h1).1
      simpa using this
    have e : i = as.length := by omega
    subst e
    rw [List.getElem?_append_right (Nat.le_refl _), Nat.sub_self] at h1
    rw [h.1, List.getElem?_append_right (Nat.le_refl _), Nat.sub_self] at h2
    obtain rfl := Option.some.inj h1
    obtain rfl := Option.some.inj h2
    exact k⟩
end Sp
namespace Sp
open PySem PySem.Spec PyProof.Rows L2
theorem mem_snoc {α : Type} {l : List α} {x : α} : x ∈ l ++ [x] := List.mem_append_right _ (List.mem_cons_self ..)
theorem more_snoc {α : Type} {l : List α} {y : α} : ∀ x ∈ l, x ∈ l ++ [y] := fun _ m => List.mem_append_left _ m
end Sp
set_option Elab.async false
set_option linter.all false
set_option maxRecDepth 100000
set_option maxHeartbeats 4000000
namespace Sp
open PySem PySem.Spec PyProof.Rows L2 RT
def tLstRev (K : PySem.W.Frag) (te : TE) : TE := fun σ H Q => te σ H fun v H1 => ∃ (a : Addr) (xs : List V), v = .ref a ∧ SqL K H1 a xs ∧ ∀ q, H1 q = none → Q (.ref q) (upd H1 q (.lst xs.reverse))
end Sp
namespace Sp
open PySem PySem.Spec PyProof.Rows L2
section
variable {K : PySem.W.Frag} {te : TE} {σ : L2.St} {ps R : List HP} {Φ : V → List HP → Prop} {a b : Addr} {xs ys : List V} {ns ms : List Int}
def RevG (K : PySem.W.Frag) (v : V) (ps : List HP) (k : List Int → Prop) : Prop := ∃ (a : Addr) (ns : List Int), v = .ref a ∧ RdL K ps a (ns.map V.int) ∧ k ns
theorem revG {k : List Int → Prop} (h : RdL K ps a (ns.map V.int)) (q : k ns) : RevG K (.ref a) ps k := ⟨a, ns, rfl, h, q⟩
theorem we_lstRev (h : We te σ ps fun x ps1 => RevG K x ps1 fun ns => ∀ p, Φ (.ref p) (pt p (.lst (ns.reverse.map V.int)) :: ps1)) : We (tLstRev K te) σ ps Φ := fun H Q s q =>
  h H _ s fun x ps1 H1 ⟨a, ns, e, rd, k⟩ s1 => ⟨a, ns.map V.int, e, rd.at' s1, fun p hp => by
    rw [← List.map_reverse]
    exact q _ _ _ (k p) (s1.new hp)⟩
theorem w2_catI (h1 : pt a (.lst (ns.map V.int)) ∈ ps) (h2 : pt b (.lst (ms.map V.int)) ∈ ps) (l : ns.length + ms.length ≤ 1000000) (k : ∀ p, Φ (.ref p) (pt p (.lst ((ns ++ ms).map V.int)) :: ps)) : W2 rCat (.ref a) (.ref b) ps Φ :=
  w2_cat h1 h2 (by rw [List.length_map, List.length_map]; exact Nat.le_trans l (by decide)) fun p => by rw [← List.map_append]; exact k p
/-- a list from its second item on -/
theorem wsl_tail (h : RdL K ps a (ns.map V.int)) (k : ∀ p, Φ (.ref p) (pt p (.lst (ns.tail.map V.int)) :: ps)) : Wsl (rSlL K) (.ref a) (some 1) none ps Φ := wsl_L h fun p => by
  have e : cutV (ns.map V.int) (some 1) none = ns.tail.map V.int := by
    cases ns with
    | nil => rfl
    | cons x r =>
      unfold cutV
      have e1 : HT.sIx ((x :: r).map V.int).length 0 (some 1) = 1 := by
        simp [HT.sIx]
      have e2 : HT.sIx ((x :: r).map V.int).length ((x :: r).map V.int).length none = ((x :: r).map V.int).length := rfl
      rw [e1, e2]
      simp only [List.map_cons, List.drop_succ_cons, List.drop_zero, List.length_cons, List.tail_cons, Nat.add_sub_cancel, List.length_map]
      exact List.take_of_length_le (by rw [List.length_map]; exact Nat.le_refl _)
  rw [e]; exact k p
end
end Sp
namespace Sp
open PySem PySem.Spec PyProof.Rows L2
section
variable {ps : List HP} {Φ : V → List HP → Prop} {a b : Addr} {ns : List Int} {x : Int}
theorem w2_catIs (h1 : pt a (.lst (ns.map V.int)) ∈ ps) (h2 : pt b (.lst [.int x]) ∈ ps) (l : ns.length ≤ 1000000) (k : ∀ p, Φ (.ref p) (pt p (.lst ((ns ++ [x]).map V.int)) :: ps)) : W2 rCat (.ref a) (.ref b) ps Φ :=
  w2_cat h1 h2 (by rw [List.length_map]; exact Nat.le_trans (m := 1000001) (by simp; omega) (by decide)) fun p => by rw [snocI]; exact k p
theorem w2_catsI (h1 : pt a (.lst [.int x]) ∈ ps) (h2 : pt b (.lst (ns.map V.int)) ∈ ps) (l : ns.length ≤ 1000000) (k : ∀ p, Φ (.ref p) (pt p (.lst ((x :: ns).map V.int)) :: ps)) : W2 rCat (.ref a) (.ref b) ps Φ :=
  w2_cat h1 h2 (by rw [List.length_map]; exact Nat.le_trans (m := 1000001) (by simp; omega) (by decide)) fun p => k p
end
end Sp
set_option Elab.async false
set_option linter.all false
set_option maxRecDepth 100000
set_option maxHeartbeats 4000000
namespace Sp
open PySem PySem.Spec PyProof.Rows L2
def Deed.data : Deed → PyData
  | .one => .tuple [.str "one"] | .count => .tuple [.str "count"] | .set n => .tuple [.str "set", .int n] | .look => .tuple [.str "look"] | .add n => .tuple [.str "add", .int n] | .sum => .tuple [.str "sum"]
  | .raise n => .tuple [.str "raise", .int n] | .top => .tuple [.str "top"] | .give n => .tuple [.str "give", .int n] | .take => .tuple [.str "take"]
def Rec.data (r : Rec) : PyData := .tuple [.int r.hand, r.deed.data, .int r.b, .int r.e, r.an.data]
section
variable {K : PySem.W.Frag} {ps : List HP} {L : List (Addr × List V)} {a p : Addr} {d : Deed} {r : Rec} {as : List Addr} {rs : List Rec}
theorem dp_tup {xs : List V} {ds : List PyData} (h : RdT K ps a xs) (g : RdDs K ps xs ds) : ∀ H, Sat H ps → Dp K H (.ref a) (.tuple ds) := fun H s => .tup (h.at' s) (g.all s)
theorem dp_deed (m : tups L ∈ ps) (h : (a, d.vals) ∈ L) : ∀ H, Sat H ps → Dp K H (.ref a) d.data := by
  cases d <;> exact dp_tup (rdt_tups m h) (by first | exact .cons (fun _ _ => .str _) .nil | exact .cons (fun _ _ => .str _) (.cons (fun _ _ => .int _) .nil))
theorem dp_rec (m : tups L ∈ ps) (h : RecIn L a r) : ∀ H, Sat H ps → Dp K H (.ref a) r.data :=
  dp_tup (rdt_tups m h.1) (.cons (fun _ _ => .int _) (.cons (dp_deed m h.2.1) (.cons (fun _ _ => .int _) (.cons (fun _ _ => .int _) (.cons ((rdd_ansR m h.2.2).dp) .nil)))))
theorem rdds_recs (m : tups L ∈ ps) : ∀ {as : List Addr} {rs : List Rec}, RecsIn L as rs → RdDs K ps (as.map V.ref) (rs.map Rec.data)
  | [], [], _ => .nil
  | [], _ :: _, h => by have := h.1; simp at this
  | _ :: _, [], h => by have := h.1; simp at this
  | a :: as, r :: rs, h => .cons (dp_rec m (h.2 0 a r rfl rfl)) (rdds_recs m ⟨by have := h.1; simpa using this, fun i a r h1 h2 => h.2 (i + 1) a r (by simpa using h1) (by simpa using h2)⟩)
theorem Deed.canLay (d : Deed) : PyData.canLay0 d.data = true := by cases d <;> simp [Deed.data, PyData.canLay0, PyData.canLayAll0] <;> decide +kernel
theorem Ans.canLay (an : Ans) : PyData.canLay0 an.data = true := (Bool.and_eq_true_iff.mp an.shaped).1
theorem Deed.depth (d : Deed) : PyData.depth d.data ≤ 2 := by cases d <;> simp [Deed.data, PyData.depth, PyData.depthAll]
theorem Ans.depth (an : Ans) : PyData.depth an.data ≤ 2 := by
  cases an with
  | non => simp [Ans.data, PyData.depth]
  | int i => simp [Ans.data, PyData.depth]
  | view l => have := depthAll_ints l; simp only [Ans.data, PyData.depth]; omega
theorem Rec.canLay (r : Rec) : PyData.canLay0 r.data = true := by simp [Rec.data, PyData.canLay0, PyData.canLayAll0, Deed.canLay, Ans.canLay]
theorem Rec.depth (r : Rec) : PyData.depth r.data ≤ 4 := by
  have h1 := r.deed.depth
  have h2 := r.an.depth
  simp only [Rec.data, PyData.depth, PyData.depthAll]
  omega
theorem recs_canLay (rs : List Rec) : PyData.canLayAll0 (rs.map Rec.data) = true := by
  induction rs with
  | nil => rfl
  | cons r rs ih => simp [PyData.canLayAll0, Rec.canLay, ih]
theorem recs_depth (rs : List Rec) : PyData.depthAll (rs.map Rec.data) ≤ 4 := by
  induction rs with
  | nil => simp [PyData.depthAll]
  | cons r rs ih => have := r.depth; simp only [List.map, PyData.depthAll]; omega
theorem recs_shaped (rs : List Rec) : SeqAt.shaped (.list (rs.map Rec.data)) = true := by
  have h := recs_depth rs
  unfold SeqAt.shaped
  refine Bool.and_eq_true_iff.mpr ⟨recs_canLay rs, decide_eq_true ?_⟩
  show PyData.depthAll (rs.map Rec.data) + 1 ≤ 64
  omega
theorem rdd_recs (m : tups L ∈ ps) (h : RecsIn L as rs) (rd : RdL K ps a (as.map V.ref)) : RdD K ps (.ref a) (.list (rs.map Rec.data)) := rdd_list rd (rdds_recs m h) (recs_shaped rs)
theorem recs_eqNil (rs : List Rec) : PyData.eqv (.list (rs.map Rec.data)) (.list []) = decide (rs = []) := by
  cases rs <;> simp [PyData.eqv, PyData.eqvAll]
end
end Sp
namespace Sp
open PySem L2
theorem RecsIn.set {L : List (Addr × List V)} {as : List Addr} {rs : List Rec} {a : Addr} {r : Rec} {i : Nat} (h : RecsIn L as rs) (hi : i < as.length) (k : RecIn L a r) : RecsIn L (as.set i a) (rs.set i r) := ⟨by simp [h.1], fun j a' r' h1 h2 => by
  by_cases e : i = j
  · subst e
    rw [List.getElem?_set_self hi] at h1
    rw [List.getElem?_set_self (by rw [← h.1]; exact hi)] at h2
    obtain rfl := Option.some.inj h1
    obtain rfl := Option.some.inj h2
    exact k
  · rw [List.getElem?_set_ne e] at h1 h2
    exact h.2 j a' r' h1 h2⟩
end Sp
set_option Elab.async false
set_option linter.all false
set_option maxRecDepth 100000
set_option maxHeartbeats 4000000
namespace Sp
open PySem PySem.Spec PyProof.Rows L2 ClX
def tClsFn (C : Addr) (sp : L2.Sp) (E : XK) (ta : TE) (t : TA) : TE := fun σ H Q => ta σ H fun x H1 => x = .ref C ∧ t σ H1 fun vs H2 => sp vs H2 Q E
end Sp
namespace Sp
open PySem L2
section
variable {te : TE} {tr : TA} {σ : L2.St} {ps : List HP} {Φ : V → List HP → Prop} {C : Addr} {E : XK}
def ClsG (C : Addr) (x : V) (k : Prop) : Prop := x = .ref C ∧ k
theorem clsG {k : Prop} (h : k) : ClsG C (.ref C) k := ⟨rfl, h⟩
theorem we_clsfn {S : SP} (h : We te σ ps fun x ps1 => ClsG C x (Wa tr σ ps1 fun vs ps2 => S vs ps2 Φ)) : We (tClsFn C (spS S) E te tr) σ ps Φ := fun H Q s q =>
  h H _ s fun x ps1 H1 ⟨e, k⟩ s1 => ⟨e, k H1 _ s1 fun vs ps2 H2 k2 s2 => ⟨ps2, Φ, s2, k2, q⟩⟩
end
end Sp
set_option Elab.async false
set_option linter.all false
set_option maxRecDepth 100000
set_option maxHeartbeats 4000000
namespace Mir
open Sp PySem L2
/-- a number parted -/
def un (n : Int) : List Int := if h : 1 < n then (n % 1000000) :: un (n / 1000000) else []
termination_by n.toNat
decreasing_by omega
def pkN : List Int → Int
  | [] => 1
  | x :: r => x + 1000000 * pkN r
abbrev Lent := List ((Nat × Int) × Int)
structure ScanS where
  ahead : Option (List Int)
  row : List Int
  moved : List Nat
  upto : Int
  view : Option (List Int)
  moment : Int
def ScanS.new : ScanS := ⟨none, [], [], 0, none, 0⟩
structure MemS where
  ones : Int
  pS : Int
  pA : Int
  pR : Int
  cS : Int
  cA : Int
  cR : Int
  gifts : List Int
  took : List Int
def MemS.new (m : Nat) : MemS := ⟨0, 0, 0, 0, 0, 0, 0, [], List.replicate m 0⟩
inductive WX where
  | one
  | count (row : List Int)
  | look (s : ScanS)
  | change (s : ScanS)
  | give (read : Nat)
  | take (rows : List (List Int)) (again : Bool)
inductive WC where
  | one | count | look | change | give | take
  deriving DecidableEq
def WX.cls : WX → WC
  | .one => .one | .count _ => .count | .look _ => .look | .change _ => .change | .give _ => .give | .take _ _ => .take
structure WorkS where
  deed : Deed
  hand : Nat
  ans : Ans
  moment : Int
  stamp : Int
  giver : Nat
  nth : Int
  x : WX
structure DoneS where
  work : WorkS
  b : Nat
  e : Nat
structure HallS where
  many : Nat
  plans : List (List Deed)
  boxes : List Int
  log : List Touch
  mems : List MemS
  underway : List (Option WorkS)
  begins : List Nat
  own : List Nat
  hands : List Nat
  lent : Lent
  ended : List DoneS
def cellOf (n : Int) : Int := if n = 0 then 0 else (un n).getD 1 0
def changedF (many : Nat) (row ahead : List Int) : List Nat := (List.range many).filter fun k => row.getD k 0 ≠ ahead.getD k 0
def lentF (lent : Lent) (p : Nat) (n : Int) : Int := (lent.lookup (p, n)).getD 0
/-- the first that moved before, those ahead of it marked -/
def firstMoved : List Nat → List Nat → Option Nat × List Nat
  | [], mv => (none, mv)
  | k :: r, mv => if k ∈ mv then (some k, mv) else firstMoved r (mv ++ [k])
/-- two readings held beside one another -/
def lookedF (first many : Nat) (lent : Lent) (ah : List Int) (s : ScanS) : ScanS × Bool :=
  match changedF many s.row ah with
  | [] => ({ s with view := some (s.row.map cellOf), moment := s.upto }, true)
  | ch => match firstMoved ch s.moved with
    | (some k, mv) => ({ s with moved := mv, view := some ((un (s.row.getD k 0)).drop 2), moment := lentF lent (first + k) ((un (s.row.getD k 0)).getD 0 0) }, true)
    | (none, mv) => ({ s with moved := mv }, false)
/-- one box more is read: n -/
def scanF (first many : Nat) (n : Int) (clock : Nat) (lent : Lent) (s : ScanS) : ScanS × Bool :=
  let s1 := { s with row := s.row ++ [n] }
  if s1.row.length < many then (s1, false)
  else
    let next := fun (s2 : ScanS) => ({ s2 with ahead := some s2.row, row := [], upto := clock } : ScanS)
    match s.ahead with
    | none => (next s1, false)
    | some ah => match lookedF first many lent ah s1 with
      | (s2, true) => (s2, true)
      | (s2, false) => (next s2, false)
def thing : Deed → Nat
  | .one => 0 | .count => 0 | .set _ => 1 | .look => 1 | .add _ => 2 | .sum => 2 | .raise _ => 3 | .top => 3 | .give _ => 4 | .take => 4
def wxNew : Deed → WX
  | .one => .one | .count => .count [] | .give _ => .give 0 | .take => .take [] false | .look => .look .new | .sum => .look .new | .top => .look .new | _ => .change .new
def workNew (d : Deed) (h : Nat) : WorkS := ⟨d, h, .non, 0, 0, 0, 0, wxNew d⟩
structure StepR where
  touch : Touch
  mem : MemS
  lent : Lent
  work : WorkS
  fin : Bool
/-- the last stamp of a row of gifts -/
def lastStamp (row : List Int) : List Int := if 2 ≤ row.length then [row.getD (row.length - 2) 0] else []
/-- of some hands the one with the least (stamp, hand); those given stand in order -/
def leastF (f : Nat → Int) : Nat → List Nat → Nat
  | k, [] => k
  | k, j :: r => leastF f (if f j < f k then j else k) r
def lentPut (lent : Lent) (p : Nat) (n v : Int) : Lent := lent ++ [((p, n), v)]
def changeMem (m : MemS) : Deed → MemS × Int × Int
  | .set n => ({ m with cS := n, pS := m.pS + 1 }, m.pS + 1, n)
  | .add n => ({ m with cA := n + m.cA, pA := m.pA + 1 }, m.pA + 1, n + m.cA)
  | .raise n => ({ m with cR := max n m.cR, pR := m.pR + 1 }, m.pR + 1, max n m.cR)
  | _ => (m, 0, 0)
def lookAns (view : List Int) : Deed → Ans
  | .sum => .int view.sum
  | .top => .int (topOf view)
  | _ => .view view
def giveN : Deed → Int
  | .give n => n
  | _ => 0
def leftF (many : Nat) (rows : List (List Int)) (took : List Int) : List Nat := (List.range many).filter fun k => 2 * took.getD k 0 < ((rows.getD k []).length : Int)
def rankF (rows : List (List Int)) (took : List Int) (k : Nat) : Int := (rows.getD k []).getD (2 * took.getD k 0).toNat 0
def tkT (boxes : List Int) (p : Nat) : Touch := ⟨true, (p : Int), boxes.getD p 0⟩
def ptT (p : Nat) (n : Int) : Touch := ⟨false, (p : Int), n⟩
def stepF (many clock : Nat) (boxes : List Int) (lent : Lent) (m : MemS) (w : WorkS) : StepR :=
  let first := thing w.deed * many
  match w.x with
  | .one => ⟨ptT (first + w.hand) (m.ones + 1), { m with ones := m.ones + 1 }, lent, { w with moment := clock }, true⟩
  | .count row =>
    let row' := row ++ [boxes.getD (first + row.length) 0]
    ⟨tkT boxes (first + row.length), m, lent, { w with x := .count row', ans := .int row'.sum }, row'.length = many⟩
  | .look s =>
    match scanF first many (boxes.getD (first + s.row.length) 0) clock lent s with
    | (s', true) => ⟨tkT boxes (first + s.row.length), m, lent, { w with x := .look s', moment := s'.moment, ans := lookAns (s'.view.getD []) w.deed }, true⟩
    | (s', false) => ⟨tkT boxes (first + s.row.length), m, lent, { w with x := .look s' }, false⟩
  | .change s => match s.view with
    | none => ⟨tkT boxes (first + s.row.length), m, lent, { w with x := .change (scanF first many (boxes.getD (first + s.row.length) 0) clock lent s).1 }, false⟩
    | some view =>
      let (m', n, c) := changeMem m w.deed
      ⟨ptT (first + w.hand) (pkN ([n, c] ++ view)), m', lentPut lent (first + w.hand) n s.moment, { w with moment := clock }, true⟩
  | .give read =>
    if read < many then
      ⟨tkT boxes (first + read), m, lent, { w with x := .give (read + 1), stamp := topOf ([w.stamp] ++ lastStamp (un (boxes.getD (first + read) 0))) }, false⟩
    else
      let g := m.gifts ++ [w.stamp + 1, giveN w.deed]
      ⟨ptT (first + w.hand) (pkN g), { m with gifts := g }, lent, { w with stamp := w.stamp + 1, moment := clock }, true⟩
  | .take rows again =>
    let rows' := rows ++ [un (boxes.getD (first + rows.length) 0)]
    let t := tkT boxes (first + rows.length)
    if rows'.length < many then ⟨t, m, lent, { w with x := .take rows' again }, false⟩
    else match leftF many rows' m.took with
      | [] => ⟨t, m, lent, { w with x := .take rows' again }, true⟩
      | k :: r =>
        if again = false then ⟨t, m, lent, { w with x := .take [] true }, false⟩
        else
          let g := leastF (rankF rows' m.took) k r
          let nth := m.took.getD g 0
          ⟨t, { m with took := m.took.set g (nth + 1) }, lent, { w with x := .take rows' again, giver := g, nth := nth, ans := .int ((rows'.getD g []).getD (2 * nth + 1).toNat 0), moment := clock }, true⟩
def HallS.new (plans : List (List Deed)) : HallS :=
  let m := plans.length
  ⟨m, plans, List.replicate (5 * m) 0, [], List.replicate m (.new m), List.replicate m none, List.replicate m 0, List.replicate m 0, [], [], []⟩
def HallS.putT (S : HallS) (t : Touch) : List Int := if t.taken then S.boxes else S.boxes.set t.place.toNat t.number
def HallS.run (S : HallS) (h : Nat) (w : WorkS) : HallS :=
  let r := stepF S.many S.hands.length S.boxes S.lent (S.mems.getD h (.new S.many)) w
  let S' := { S with hands := S.hands ++ [h], boxes := S.putT r.touch, log := S.log ++ [r.touch], mems := S.mems.set h r.mem, lent := r.lent }
  match r.fin with
  | true => { S' with ended := S.ended ++ [⟨r.work, S.begins.getD h 0, S.hands.length⟩], underway := S.underway.set h none, own := S.own.set h 0 }
  | false => { S' with underway := S.underway.set h (some r.work), own := S.own.set h (S.own.getD h 0 + 1) }
def inB (n : Int) : Prop := 0 ≤ n ∧ n < 1000000
end Mir
namespace Mir
open Sp
end Mir
namespace Mir
open Sp
end Mir
namespace Mir
open Sp
instance : Inhabited WorkS := ⟨workNew .one 0⟩
instance : Inhabited DoneS := ⟨⟨default, 0, 0⟩⟩
end Mir
namespace Mir
open Sp
end Mir
set_option Elab.async false
set_option linter.all false
set_option maxRecDepth 100000
set_option maxHeartbeats 4000000
namespace Mir
open Sp
theorem un_step {n : Int} (h : 1 < n) : un n = (n % 1000000) :: un (n / 1000000) := by rw [un, dif_pos h]
theorem un_end {n : Int} (h : ¬ 1 < n) : un n = [] := by rw [un, dif_neg h]
theorem pkN_pos : ∀ {l : List Int}, (∀ x ∈ l, inB x) → 1 ≤ pkN l
  | [], _ => Int.le_refl 1
  | x :: r, h => by
    have h1 := h x (List.mem_cons_self ..)
    have h2 := pkN_pos (l := r) fun y m => h y (List.mem_cons_of_mem _ m)
    simp only [pkN, inB] at *; omega
theorem un_pkN : ∀ {l : List Int}, (∀ x ∈ l, inB x) → un (pkN l) = l
  | [], _ => un_end (by decide)
  | x :: r, h => by
    have h1 := h x (List.mem_cons_self ..)
    have hr : ∀ y ∈ r, inB y := fun y m => h y (List.mem_cons_of_mem _ m)
    have h2 := pkN_pos hr
    have e := un_pkN hr
    simp only [inB] at h1
    rw [un_step (by simp only [pkN]; omega)]
    have e1 : pkN (x :: r) % 1000000 = x := by simp only [pkN]; omega
    have e2 : pkN (x :: r) / 1000000 = pkN r := by simp only [pkN]; omega
    rw [e1, e2, e]
theorem un_zero : un 0 = [] := un_end (by decide)
theorem pkN_gt {x : Int} {r : List Int} (h : ∀ y ∈ x :: r, inB y) : 1 < pkN (x :: r) := by
  have h1 := h x (List.mem_cons_self ..)
  have h2 := pkN_pos (l := r) fun y m => h y (List.mem_cons_of_mem _ m)
  simp only [pkN, inB] at *; omega
def isPut (t : Touch) (p : Nat) : Bool := !t.taken && decide (t.place = (p : Int))
def bxL (l : List Touch) (p : Nat) : Int := l.foldl (fun v t => if isPut t p then t.number else v) 0
/-- what box p held after t touches -/
def bx (l : List Touch) (p t : Nat) : Int := bxL (l.take t) p
variable {l x : List Touch} {p q s t : Nat} {a : Touch}
end Mir
set_option Elab.async false
set_option linter.all false
set_option maxRecDepth 100000
set_option maxHeartbeats 4000000
namespace Mir
open Sp
/-- a deed that puts into the box of hand k in thing th -/
def isCh (th k : Nat) (d : DoneS) : Bool := decide d.work.deed.changes && (decide (thing d.work.deed = th) && decide (d.work.hand = k))
/-- what was put into a box ahead of step u -/
def E (es : List DoneS) (th k u : Nat) : List DoneS := es.filter fun d => isCh th k d && decide (d.e < u)
def updN (c : Int) : Deed → Int
  | .set n => n
  | .add n => n + c
  | .raise n => max n c
  | _ => c
def cellF (l : List DoneS) : Int := l.foldl (fun c d => updN c d.work.deed) 0
def viewOf (d : DoneS) : List Int := match d.work.x with
  | .change s => s.view.getD []
  | _ => []
def momOf (d : DoneS) : Int := match d.work.x with
  | .change s => s.moment
  | _ => 0
def flat (l : List DoneS) : List Int := l.flatMap fun d => [d.work.stamp, giveN d.work.deed]
def rowP (l : List DoneS) : List Int := match l.getLast? with
  | none => []
  | some d => [(l.length : Int), cellF l] ++ viewOf d
def rowV (th : Nat) (l : List DoneS) : List Int := if th = 4 then flat l else rowP l
/-- what a box holds behind these -/
def val (th : Nat) (l : List DoneS) : Int := if th = 0 then l.length else if l = [] then 0 else pkN (rowV th l)
theorem isCh_iff {th k : Nat} {d : DoneS} : isCh th k d = true ↔ d.work.deed.changes ∧ thing d.work.deed = th ∧ d.work.hand = k := by simp [isCh]
section
variable {es : List DoneS} {d : DoneS} {th k u v t : Nat}
theorem E_mem : d ∈ E es th k u ↔ d ∈ es ∧ (d.work.deed.changes ∧ thing d.work.deed = th ∧ d.work.hand = k) ∧ d.e < u := by
  unfold E
  rw [List.mem_filter, Bool.and_eq_true, isCh_iff, decide_eq_true_iff]
theorem rowV_nil : rowV th [] = [] := by unfold rowV; split <;> rfl
theorem un_val {l : List DoneS} (h : th ≠ 0) (hb : ∀ x ∈ rowV th l, inB x) : un (val th l) = rowV th l := by
  unfold val
  rw [if_neg h]
  split
  · rename_i e; subst e; rw [un_zero, rowV_nil]
  · exact un_pkN hb
/-- how often a picture's box was put, by its number -/
def num (v : Int) : Int := if v = 0 then 0 else (un v).getD 0 0
theorem rowP_shape {l : List DoneS} (h : l ≠ []) : ∃ d, l.getLast? = some d ∧ rowP l = [(l.length : Int), cellF l] ++ viewOf d := by
  unfold rowP
  cases e : l.getLast? with
  | none => exact absurd (List.getLast?_eq_none_iff.mp e) h
  | some d => exact ⟨d, rfl, rfl⟩
theorem val_pos {l : List DoneS} (h : th ≠ 0) (hn : l ≠ []) (h4 : rowV th l ≠ []) (hb : ∀ x ∈ rowV th l, inB x) : 1 < val th l := by
  unfold val
  rw [if_neg h, if_neg hn]
  cases e : rowV th l with
  | nil => exact absurd e h4
  | cons x r => rw [e] at hb; exact pkN_gt hb
theorem rowP_ne {l : List DoneS} (hn : l ≠ []) : rowP l ≠ [] := by
  obtain ⟨d, _, e⟩ := rowP_shape hn
  rw [e]; exact fun z => nomatch z
end
end Mir
set_option Elab.async false
set_option linter.all false
set_option maxRecDepth 100000
set_option maxHeartbeats 4000000
namespace Mir
open Sp
def viewAt (es : List DoneS) (m th u : Nat) : List Int := (List.range m).map fun k => cellF (E es th k u)
def cntS (es : List DoneS) (m u : Nat) : Nat := ((List.range m).map fun k => (E es 0 k u).length).sum
def isTk (k : Nat) (d : DoneS) : Bool := decide (d.work.deed = .take) && (decide (d.work.ans ≠ .non) && decide (d.work.giver = k))
/-- how many gifts of hand k were taken ahead of step u -/
def tkn (es : List DoneS) (k u : Nat) : Nat := (es.filter fun d => isTk k d && decide (d.e < u)).length
def isChg : Deed → Prop
  | .set _ => True | .add _ => True | .raise _ => True | _ => False
def isLook : Deed → Prop
  | .look => True | .sum => True | .top => True | _ => False
def isGive : Deed → Prop
  | .give _ => True | _ => False
/-- a view of some moment -/
def ViewI (es : List DoneS) (m th b hi : Nat) (mom : Int) (v : List Int) : Prop := ∃ M : Nat, mom = M ∧ b ≤ M ∧ M < hi ∧ v = viewAt es m th (M + 1)
/-- what a deed that has ended tells -/
structure Fact (es : List DoneS) (m : Nat) (d : DoneS) : Prop where
  one : d.work.deed = .one → d.work.ans = .non ∧ d.work.moment = d.e ∧ d.b = d.e
  count : d.work.deed = .count → ∃ a : Nat, d.work.ans = .int a ∧ cntS es m d.b ≤ a ∧ a ≤ cntS es m d.e
  look : isLook d.work.deed → ∃ v, d.work.ans = lookAns v d.work.deed ∧ ViewI es m (thing d.work.deed) d.b (d.e + 1) d.work.moment v
  chg : isChg d.work.deed → d.work.ans = .non ∧ d.work.moment = d.e ∧ ViewI es m (thing d.work.deed) d.b d.e (momOf d) (viewOf d)
  give : isGive d.work.deed → d.work.ans = .non ∧ d.work.moment = d.e ∧ 1 ≤ d.work.stamp ∧ d.work.stamp ≤ d.e + 1 ∧ ∀ k, k < m → ∀ g ∈ E es 4 k d.b, g.work.stamp < d.work.stamp
  take : d.work.deed = .take → d.work.hand = 0 ∧ ((d.work.ans = .non ∧ ∀ k, k < m → (E es 4 k d.b).length ≤ tkn es k d.e) ∨
    ∃ G, d.work.giver < m ∧ d.work.nth = tkn es d.work.giver d.e ∧ (E es 4 d.work.giver d.e)[tkn es d.work.giver d.e]? = some G ∧ d.work.ans = .int (giveN G.work.deed) ∧ ∀ k, k < m → (E es 4 k G.b).length ≤ tkn es k d.e)
/-- a scan underway -/
structure ScanI (es : List DoneS) (m th b now h own : Nat) (s : ScanS) : Prop where
  row : s.row.length < m
  view : s.view = none
  nd : s.moved.Nodup
  mv : ∀ k ∈ s.moved, k < m ∧ k ≠ h
  first : s.ahead = none → s.moved = [] ∧ own = s.row.length ∧ ∀ k, k < s.row.length → ∃ u, b ≤ u ∧ u ≤ now ∧ s.row.getD k 0 = val th (E es th k u)
  later : ∀ ah, s.ahead = some ah → ah.length = m ∧ ∃ r up : Nat, own = r * m + s.row.length ∧ 1 ≤ r ∧ r ≤ s.moved.length + 1 ∧ s.upto = up ∧ b ≤ up ∧ up < now ∧
    (∀ k, k < m → ∃ u, b ≤ u ∧ u ≤ up ∧ ah.getD k 0 = val th (E es th k u)) ∧ (∀ k, k < s.row.length → ∃ u, up < u ∧ u ≤ now ∧ s.row.getD k 0 = val th (E es th k u)) ∧
    ∀ k ∈ s.moved, ((E es th k b).length : Int) < num (ah.getD k 0)
/-- a deed underway -/
structure WInv (es : List DoneS) (m h b now own : Nat) (w : WorkS) : Prop where
  ans : w.deed ≠ .count → w.ans = .non
  x : match w.x with
    | .one => w.deed = .one ∧ own = 0 ∧ b = now
    | .count row => w.deed = .count ∧ row.length < m ∧ own = row.length ∧ ∀ k, k < row.length → ((E es 0 k b).length : Int) ≤ row.getD k 0 ∧ row.getD k 0 ≤ (E es 0 k now).length
    | .look s => isLook w.deed ∧ ScanI es m (thing w.deed) b now h own s
    | .change s => isChg w.deed ∧ match s.view with
      | none => ScanI es m (thing w.deed) b now h own s
      | some v => own ≤ m * (m + 1) ∧ ViewI es m (thing w.deed) b now s.moment v
    | .give read => isGive w.deed ∧ read ≤ m ∧ own = read ∧ 0 ≤ w.stamp ∧ w.stamp ≤ now ∧ ∀ k, k < read → ∀ g ∈ E es 4 k b, g.work.stamp ≤ w.stamp
    | .take rows again => w.deed = .take ∧ h = 0 ∧ rows.length < m ∧ own = (if again then m else 0) + rows.length ∧ ∃ lo, b ≤ lo ∧ lo ≤ now ∧ (again = false → lo = b) ∧ (again = true → ∃ k, k < m ∧ tkn es k now < (E es 4 k lo).length) ∧
      ∀ k, k < rows.length → ∃ u, lo ≤ u ∧ u ≤ now ∧ rows.getD k [] = flat (E es 4 k u)
structure MemOk (es : List DoneS) (h now : Nat) (m : MemS) : Prop where
  ones : m.ones = (E es 0 h now).length
  pS : m.pS = (E es 1 h now).length
  pA : m.pA = (E es 2 h now).length
  pR : m.pR = (E es 3 h now).length
  cS : m.cS = cellF (E es 1 h now)
  cA : m.cA = cellF (E es 2 h now)
  cR : m.cR = cellF (E es 3 h now)
  gifts : m.gifts = flat (E es 4 h now)
structure Inv (P : List (List Deed)) (S : HallS) : Prop where
  m : 1 ≤ S.many ∧ S.many ≤ 4
  lp : P.length = S.many
  lplans : S.plans.length = S.many
  lboxes : S.boxes.length = 5 * S.many
  lmems : S.mems.length = S.many
  lunder : S.underway.length = S.many
  lbegins : S.begins.length = S.many
  lown : S.own.length = S.many
  hl : S.hands.length = S.log.length
  plan : ∀ h, h < S.many → (S.ended.filter fun d => decide (d.work.hand = h)).map (·.work.deed) ++ (S.underway.getD h none).toList.map (·.deed) ++ S.plans.getD h [] = P.getD h []
  pok : ∀ h, h < S.many → (P.getD h []).length ≤ 40 ∧ ∀ d ∈ P.getD h [], d.ok ∧ (d = .take → h = 0)
  srt : S.ended.Pairwise fun a b => a.e < b.e
  fin : ∀ d ∈ S.ended, d.b ≤ d.e ∧ d.e < S.hands.length ∧ d.work.hand < S.many
  seq : S.ended.Pairwise fun a b => a.work.hand = b.work.hand → a.e < b.b
  nb : ∀ d ∈ S.ended, ∀ c ∈ S.ended, c.e = d.b → c.e = d.e
  under : ∀ h, h < S.many → ∀ w, S.underway.getD h none = some w → (w.x ≠ .one ∧ S.begins.getD h 0 < S.hands.length ∧ ∀ d ∈ S.ended, d.e ≠ S.begins.getD h 0) ∧ w.hand = h ∧ S.begins.getD h 0 ≤ S.hands.length ∧ (∀ d ∈ S.ended, d.work.hand = h → d.e < S.begins.getD h 0) ∧ WInv S.ended S.many h (S.begins.getD h 0) S.hands.length (S.own.getD h 0) w
  boxes : ∀ th k, th < 5 → k < S.many → S.boxes.getD (th * S.many + k) 0 = val th (E S.ended th k S.hands.length)
  mem : ∀ h, h < S.many → MemOk S.ended h S.hands.length (S.mems.getD h (.new S.many))
  took : (S.mems.getD 0 (.new S.many)).took = (List.range S.many).map fun k => (tkn S.ended k S.hands.length : Int)
  lent1 : ∀ th k, 1 ≤ th → th ≤ 3 → k < S.many → ∀ i d, (E S.ended th k S.hands.length)[i]? = some d → S.lent.lookup (th * S.many + k, ((i + 1 : Nat) : Int)) = some (momOf d)
  lent2 : ∀ th k (n : Int), 1 ≤ th → th ≤ 3 → k < S.many → ((E S.ended th k S.hands.length).length : Int) < n → S.lent.lookup (th * S.many + k, n) = none
  inb : ∀ th k u, th ≠ 0 → th < 5 → k < S.many → ∀ x ∈ rowV th (E S.ended th k u), inB x
  fact : ∀ d ∈ S.ended, Fact S.ended S.many d
  lentl : S.lent.length ≤ S.hands.length
end Mir
set_option Elab.async false
set_option linter.all false
set_option maxRecDepth 100000
set_option maxHeartbeats 4000000
namespace Mir
open Sp
theorem isChg_of {d : DoneS} {th k : Nat} (h : isCh th k d = true) (h0 : th ≠ 0) (h4 : th ≠ 4) : isChg d.work.deed := by
  obtain ⟨a, b, _⟩ := isCh_iff.mp h
  revert a b
  cases d.work.deed <;> simp [Deed.changes, thing, isChg] <;> omega
section
variable {P : List (List Deed)} {S : HallS} (I : Inv P S)
include I
/-- what the last put tells -/
theorem Inv.row {th k u : Nat} (h1 : 1 ≤ th) (h3 : th ≤ 3) (hk : k < S.many) (hn : E S.ended th k u ≠ []) : ∃ d, (E S.ended th k u)[(E S.ended th k u).length - 1]? = some d ∧ un (val th (E S.ended th k u)) = [((E S.ended th k u).length : Int), cellF (E S.ended th k u)] ++ viewOf d ∧ (viewOf d).length = S.many ∧ 1 < val th (E S.ended th k u) := by
  obtain ⟨d, hd, e⟩ := rowP_shape hn
  have ev : rowV th (E S.ended th k u) = rowP (E S.ended th k u) := if_neg (by omega)
  have hb := I.inb th k u (by omega) (by omega) hk
  rw [List.getLast?_eq_getElem?] at hd
  have hm := List.mem_of_getElem? hd
  obtain ⟨m1, m2, _⟩ := E_mem.mp hm
  have hc := isChg_of (isCh_iff.mpr m2) (by omega) (by omega)
  obtain ⟨_, _, M, _, _, _, hv⟩ := (I.fact d m1).chg hc
  refine ⟨d, hd, by rw [un_val (by omega) hb, ev, e], by rw [hv]; simp [viewAt], val_pos (by omega) hn (by rw [ev]; exact rowP_ne hn) hb⟩
end
end Mir
set_option Elab.async false
set_option linter.all false
set_option maxRecDepth 100000
set_option maxHeartbeats 4000000
namespace Mir
open Sp
structure Beg (P : List (List Deed)) (S : HallS) (h : Nat) (w : WorkS) (pl : List (List Deed)) (un : List (Option WorkS)) (bg ow : List Nat) : Prop where
  lp : pl.length = S.many
  lu : un.length = S.many
  lb : bg.length = S.many
  lo : ow.length = S.many
  here : un.getD h none = some w
  oth : ∀ k, k ≠ h → pl.getD k [] = S.plans.getD k [] ∧ un.getD k none = S.underway.getD k none ∧ bg.getD k 0 = S.begins.getD k 0 ∧ ow.getD k 0 = S.own.getD k 0
  hand : w.hand = h
  bn : bg.getD h 0 ≤ S.hands.length
  be : ∀ d ∈ S.ended, d.work.hand = h → d.e < bg.getD h 0
  nb : ∀ d ∈ S.ended, d.e ≠ bg.getD h 0
  wi : WInv S.ended S.many h (bg.getD h 0) S.hands.length (ow.getD h 0) w
  plan : (S.ended.filter fun d => decide (d.work.hand = h)).map (·.work.deed) ++ [w.deed] ++ pl.getD h [] = P.getD h []
section
variable {P : List (List Deed)} {S : HallS} {h : Nat} {w : WorkS} {pl : List (List Deed)} {un : List (Option WorkS)} {bg ow : List Nat} (I : Inv P S) (B : Beg P S h w pl un bg ow) (hh : h < S.many)
include I B hh
theorem Beg.deed : w.deed.ok ∧ (w.deed = .take → h = 0) := (I.pok h hh).2 _ (by rw [← B.plan]; simp)
theorem Beg.few : (S.ended.filter fun d => decide (d.work.hand = h)).length + 1 ≤ 40 := by
  have h2 := (I.pok h hh).1
  have := congrArg List.length B.plan
  simp only [List.length_append, List.length_map, List.length_cons, List.length_nil] at this
  omega
end
end Mir
set_option Elab.async false
set_option linter.all false
set_option maxRecDepth 100000
set_option maxHeartbeats 4000000
namespace Mir
open Sp
end Mir
set_option Elab.async false
set_option linter.all false
set_option maxRecDepth 100000
set_option maxHeartbeats 4000000
namespace Mir
open Sp
end Mir
set_option Elab.async false
set_option linter.all false
set_option maxRecDepth 100000
set_option maxHeartbeats 4000000
namespace Mir
open Sp
end Mir
set_option Elab.async false
set_option linter.all false
set_option maxRecDepth 100000
set_option maxHeartbeats 4000000
namespace Mir
open Sp
end Mir
set_option Elab.async false
set_option linter.all false
set_option maxRecDepth 100000
set_option maxHeartbeats 4000000
namespace Mir
open Sp
end Mir
set_option Elab.async false
set_option linter.all false
set_option maxRecDepth 100000
set_option maxHeartbeats 4000000
namespace Mir
open Sp
end Mir
set_option Elab.async false
set_option linter.all false
set_option maxRecDepth 100000
set_option maxHeartbeats 4000000
namespace Mir
open Sp
end Mir
set_option Elab.async false
set_option linter.all false
set_option maxRecDepth 100000
set_option maxHeartbeats 4000000
namespace Mir
open Sp
end Mir
set_option Elab.async false
set_option linter.all false
set_option maxRecDepth 100000
set_option maxHeartbeats 4000000
namespace Mir
open Sp
end Mir
set_option Elab.async false
set_option linter.all false
set_option maxRecDepth 100000
set_option maxHeartbeats 4000000
namespace Sp
open PySem PySem.Spec PyProof.Rows L2 Mir
/-- an int list or None -/
@[irreducible] def optC (v : V) : Option (List Int) → HP
  | none => pur (v = .non)
  | some l => exh fun p => grp [pur (v = .ref p), pt p (.lst (l.map V.int))]
/-- the marks of the moved: a dict -/
def mvK (mv : List Nat) : List (Key × V) := mv.map fun (k : Nat) => (Sum.inl (k : Int), V.bl true)
/-- moments lent: a dict -/
def lentK (l : Lent) : List (List Key × V) := l.map fun e => ([Sum.inl (e.1.1 : Int), Sum.inl e.1.2], V.int e.2)
/-- parts by an index -/
@[irreducible] def eachR (n : Nat) (f : Nat → HP) : HP := grp ((List.range n).map f)
def emp : HP := grp []
def hole (f : Nat → HP) (i : Nat) : Nat → HP := fun k => if k = i then emp else f k
/-- lists at addresses, held by a list -/
@[irreducible] def listsC (q : Addr) (rows : List (List Int)) : HP :=
  exh fun as : { as : List Addr // as.length = rows.length } => grp [pt q (.lst (as.1.map V.ref)), eachR rows.length fun i => pt (as.1.getD i 0) (.lst ((rows.getD i []).map V.int))]
@[irreducible] def scanC {K : PySem.W.Frag} {names : List Str} (I : CI K names) (a : Addr) (first many : Nat) (s : ScanS) : HP :=
  exh fun q : Addr × Addr × V × V => grp [obj I a [("first", .int first), ("many", .int many), ("ahead", q.2.2.1), ("row", .ref q.1), ("moved", .ref q.2.1), ("until", .int s.upto), ("view", q.2.2.2), ("moment", .int s.moment)],
    pt q.1 (.lst (s.row.map V.int)),
    pt q.2.1 (.dK (mvK s.moved)),
    optC q.2.2.1 s.ahead,
    optC q.2.2.2 s.view]
theorem open_scanC {K : PySem.W.Frag} {names : List Str} {I : CI K names} {ps R : List HP} {a : Addr} {first many : Nat} {s : ScanS} {H : Hp} (pk : Pick (scanC I a first many s) ps R) (zs : Sat H ps) : ∃ z : Addr × Addr × V × V, Sat H (obj I a [("first", .int first), ("many", .int many), ("ahead", z.2.2.1), ("row", .ref z.1), ("moved", .ref z.2.1), ("until", .int s.upto), ("view", z.2.2.2), ("moment", .int s.moment)] :: pt z.1 (.lst (s.row.map V.int)) :: pt z.2.1 (.dK (mvK s.moved)) :: optC z.2.2.1 s.ahead :: optC z.2.2.2 s.view :: R) := by
  have zs := zs.perm pk.perm
  unfold scanC at zs
  obtain ⟨q, zs⟩ := Sat.ex.mp zs
  exact ⟨q, Sat.grp.mp zs⟩
theorem fldG_scanC {K : PySem.W.Frag} {names : List Str} {I : CI K names} {ps R : List HP} {a : Addr} {first many : Nat} {s : ScanS} {f : Str} {Φ : V → List HP → Prop} (pk : Pick (scanC I a first many s) ps R) (h : ∀ (q1 : Addr) (q2 : Addr) (v1 : V) (v2 : V), FldG K (.ref a) f (obj I a [("first", .int first), ("many", .int many), ("ahead", v1), ("row", .ref q1), ("moved", .ref q2), ("until", .int s.upto), ("view", v2), ("moment", .int s.moment)] :: pt q1 (.lst (s.row.map V.int)) :: pt q2 (.dK (mvK s.moved)) :: optC v1 s.ahead :: optC v2 s.view :: R) Φ) : FldG K (.ref a) f ps Φ := FldG.open (fun H s => open_scanC pk s) fun z => h z.1 z.2.1 z.2.2.1 z.2.2.2
theorem fldS_scanC {K : PySem.W.Frag} {names : List Str} {I : CI K names} {ps R : List HP} {a : Addr} {first many : Nat} {s : ScanS} {f : Str} {y : V} {k : List HP → Prop} (pk : Pick (scanC I a first many s) ps R) (h : ∀ (q1 : Addr) (q2 : Addr) (v1 : V) (v2 : V), FldS K (.ref a) f y (obj I a [("first", .int first), ("many", .int many), ("ahead", v1), ("row", .ref q1), ("moved", .ref q2), ("until", .int s.upto), ("view", v2), ("moment", .int s.moment)] :: pt q1 (.lst (s.row.map V.int)) :: pt q2 (.dK (mvK s.moved)) :: optC v1 s.ahead :: optC v2 s.view :: R) k) : FldS K (.ref a) f y ps k := FldS.open (fun H s => open_scanC pk s) fun z => h z.1 z.2.1 z.2.2.1 z.2.2.2
theorem ent_scanC {K : PySem.W.Frag} {names : List Str} {I : CI K names} {R : List HP} {a : Addr} {first many : Nat} {s : ScanS} {q1 : Addr} {q2 : Addr} {v1 : V} {v2 : V} : Ent (obj I a [("first", .int first), ("many", .int many), ("ahead", v1), ("row", .ref q1), ("moved", .ref q2), ("until", .int s.upto), ("view", v2), ("moment", .int s.moment)] :: pt q1 (.lst (s.row.map V.int)) :: pt q2 (.dK (mvK s.moved)) :: optC v1 s.ahead :: optC v2 s.view :: R) (scanC I a first many s :: R) := fun H z => by
  unfold scanC
  exact Sat.ex.mpr ⟨(q1, q2, v1, v2), Sat.grp.mpr z⟩
theorem meth_scanC {K : PySem.W.Frag} {names : List Str} {I : CI K names} {ps : List HP} {a : Addr} {first many : Nat} {s : ScanS} {f : Str} {k : List HP → Prop} (h : scanC I a first many s ∈ ps) (p : (["first", "many", "ahead", "row", "moved", "until", "view", "moment"] : List Str) = names) (n : f ∉ names) (q : k ps) : MethG I.C f (.ref a) ps k :=
  methC h (fun H R z => by
    obtain ⟨q, z⟩ := open_scanC (.hd) z
    obtain ⟨dx, e⟩ := z.obj (List.mem_cons_self ..)
    exact ⟨dx, _, e, lookup_not fun y => n (by rw [← p]; exact y)⟩) q
@[irreducible] def memC {K : PySem.W.Frag} {names : List Str} (I : CI K names) (a : Addr) (m : MemS) : HP :=
  exh fun q : Addr × Addr × Addr × Addr => grp [obj I a [("ones", .int m.ones), ("puts", .ref q.1), ("cells", .ref q.2.1), ("gifts", .ref q.2.2.1), ("took", .ref q.2.2.2)],
    pt q.1 (.dK [(Sum.inr "set", .int m.pS), (Sum.inr "add", .int m.pA), (Sum.inr "raise", .int m.pR)]),
    pt q.2.1 (.dK [(Sum.inr "set", .int m.cS), (Sum.inr "add", .int m.cA), (Sum.inr "raise", .int m.cR)]),
    pt q.2.2.1 (.lst (m.gifts.map V.int)),
    pt q.2.2.2 (.lst (m.took.map V.int))]
theorem open_memC {K : PySem.W.Frag} {names : List Str} {I : CI K names} {ps R : List HP} {a : Addr} {m : MemS} {H : Hp} (pk : Pick (memC I a m) ps R) (zs : Sat H ps) : ∃ z : Addr × Addr × Addr × Addr, Sat H (obj I a [("ones", .int m.ones), ("puts", .ref z.1), ("cells", .ref z.2.1), ("gifts", .ref z.2.2.1), ("took", .ref z.2.2.2)] :: pt z.1 (.dK [(Sum.inr "set", .int m.pS), (Sum.inr "add", .int m.pA), (Sum.inr "raise", .int m.pR)]) :: pt z.2.1 (.dK [(Sum.inr "set", .int m.cS), (Sum.inr "add", .int m.cA), (Sum.inr "raise", .int m.cR)]) :: pt z.2.2.1 (.lst (m.gifts.map V.int)) :: pt z.2.2.2 (.lst (m.took.map V.int)) :: R) := by
  have zs := zs.perm pk.perm
  unfold memC at zs
  obtain ⟨q, zs⟩ := Sat.ex.mp zs
  exact ⟨q, Sat.grp.mp zs⟩
theorem fldG_memC {K : PySem.W.Frag} {names : List Str} {I : CI K names} {ps R : List HP} {a : Addr} {m : MemS} {f : Str} {Φ : V → List HP → Prop} (pk : Pick (memC I a m) ps R) (h : ∀ (q1 : Addr) (q2 : Addr) (q3 : Addr) (q4 : Addr), FldG K (.ref a) f (obj I a [("ones", .int m.ones), ("puts", .ref q1), ("cells", .ref q2), ("gifts", .ref q3), ("took", .ref q4)] :: pt q1 (.dK [(Sum.inr "set", .int m.pS), (Sum.inr "add", .int m.pA), (Sum.inr "raise", .int m.pR)]) :: pt q2 (.dK [(Sum.inr "set", .int m.cS), (Sum.inr "add", .int m.cA), (Sum.inr "raise", .int m.cR)]) :: pt q3 (.lst (m.gifts.map V.int)) :: pt q4 (.lst (m.took.map V.int)) :: R) Φ) : FldG K (.ref a) f ps Φ := FldG.open (fun H s => open_memC pk s) fun z => h z.1 z.2.1 z.2.2.1 z.2.2.2
theorem fldS_memC {K : PySem.W.Frag} {names : List Str} {I : CI K names} {ps R : List HP} {a : Addr} {m : MemS} {f : Str} {y : V} {k : List HP → Prop} (pk : Pick (memC I a m) ps R) (h : ∀ (q1 : Addr) (q2 : Addr) (q3 : Addr) (q4 : Addr), FldS K (.ref a) f y (obj I a [("ones", .int m.ones), ("puts", .ref q1), ("cells", .ref q2), ("gifts", .ref q3), ("took", .ref q4)] :: pt q1 (.dK [(Sum.inr "set", .int m.pS), (Sum.inr "add", .int m.pA), (Sum.inr "raise", .int m.pR)]) :: pt q2 (.dK [(Sum.inr "set", .int m.cS), (Sum.inr "add", .int m.cA), (Sum.inr "raise", .int m.cR)]) :: pt q3 (.lst (m.gifts.map V.int)) :: pt q4 (.lst (m.took.map V.int)) :: R) k) : FldS K (.ref a) f y ps k := FldS.open (fun H s => open_memC pk s) fun z => h z.1 z.2.1 z.2.2.1 z.2.2.2
theorem ent_memC {K : PySem.W.Frag} {names : List Str} {I : CI K names} {R : List HP} {a : Addr} {m : MemS} {q1 : Addr} {q2 : Addr} {q3 : Addr} {q4 : Addr} : Ent (obj I a [("ones", .int m.ones), ("puts", .ref q1), ("cells", .ref q2), ("gifts", .ref q3), ("took", .ref q4)] :: pt q1 (.dK [(Sum.inr "set", .int m.pS), (Sum.inr "add", .int m.pA), (Sum.inr "raise", .int m.pR)]) :: pt q2 (.dK [(Sum.inr "set", .int m.cS), (Sum.inr "add", .int m.cA), (Sum.inr "raise", .int m.cR)]) :: pt q3 (.lst (m.gifts.map V.int)) :: pt q4 (.lst (m.took.map V.int)) :: R) (memC I a m :: R) := fun H z => by
  unfold memC
  exact Sat.ex.mpr ⟨(q1, q2, q3, q4), Sat.grp.mpr z⟩
@[irreducible] def oneC {K : PySem.W.Frag} {names : List Str} (I : CI K names) (a : Addr) (dA mem : Addr) (hand first many : Nat) (av : V) (moment stamp : Int) (giver : Nat) (nth : Int) : HP :=
  exh fun q : Unit => grp [obj I a [("deed", .ref dA), ("hand", .int hand), ("memory", .ref mem), ("first", .int first), ("many", .int many), ("answer", av), ("moment", .int moment), ("stamp", .int stamp), ("giver", .int giver), ("nth", .int nth)]]
theorem open_oneC {K : PySem.W.Frag} {names : List Str} {I : CI K names} {ps R : List HP} {a : Addr} {dA mem : Addr} {hand first many : Nat} {av : V} {moment stamp : Int} {giver : Nat} {nth : Int} {H : Hp} (pk : Pick (oneC I a dA mem hand first many av moment stamp giver nth) ps R) (zs : Sat H ps) : ∃ z : Unit, Sat H (obj I a [("deed", .ref dA), ("hand", .int hand), ("memory", .ref mem), ("first", .int first), ("many", .int many), ("answer", av), ("moment", .int moment), ("stamp", .int stamp), ("giver", .int giver), ("nth", .int nth)] :: R) := by
  have zs := zs.perm pk.perm
  unfold oneC at zs
  obtain ⟨q, zs⟩ := Sat.ex.mp zs
  exact ⟨q, Sat.grp.mp zs⟩
theorem ent_oneC {K : PySem.W.Frag} {names : List Str} {I : CI K names} {R : List HP} {a : Addr} {dA mem : Addr} {hand first many : Nat} {av : V} {moment stamp : Int} {giver : Nat} {nth : Int}  : Ent (obj I a [("deed", .ref dA), ("hand", .int hand), ("memory", .ref mem), ("first", .int first), ("many", .int many), ("answer", av), ("moment", .int moment), ("stamp", .int stamp), ("giver", .int giver), ("nth", .int nth)] :: R) (oneC I a dA mem hand first many av moment stamp giver nth :: R) := fun H z => by
  unfold oneC
  exact Sat.ex.mpr ⟨(), Sat.grp.mpr z⟩
theorem rdf_oneC_deed {K : PySem.W.Frag} {names : List Str} {I : CI K names} {ps : List HP} {a : Addr} {dA mem : Addr} {hand first many : Nat} {av : V} {moment stamp : Int} {giver : Nat} {nth : Int} (hm0 : oneC I a dA mem hand first many av moment stamp giver nth ∈ ps) (p : (["deed", "hand", "memory", "first", "many", "answer", "moment", "stamp", "giver", "nth"] : List Str) = names) : RdF K ps a "deed" (.ref dA) := fun H s => by
  obtain ⟨l1, l2, rfl⟩ := List.append_of_mem hm0
  obtain ⟨z, s⟩ := open_oneC (.hd) (s.perm List.perm_middle)
  exact s.rf (r := []) (List.mem_cons_self ..) (by rw [List.append_nil]; exact p) (by first | exact List.mem_cons_self | (repeat (first | exact List.mem_cons_self | refine List.mem_cons_of_mem _ ?_)))
theorem rdf_oneC_hand {K : PySem.W.Frag} {names : List Str} {I : CI K names} {ps : List HP} {a : Addr} {dA mem : Addr} {hand first many : Nat} {av : V} {moment stamp : Int} {giver : Nat} {nth : Int} (hm0 : oneC I a dA mem hand first many av moment stamp giver nth ∈ ps) (p : (["deed", "hand", "memory", "first", "many", "answer", "moment", "stamp", "giver", "nth"] : List Str) = names) : RdF K ps a "hand" (.int hand) := fun H s => by
  obtain ⟨l1, l2, rfl⟩ := List.append_of_mem hm0
  obtain ⟨z, s⟩ := open_oneC (.hd) (s.perm List.perm_middle)
  exact s.rf (r := []) (List.mem_cons_self ..) (by rw [List.append_nil]; exact p) (by first | exact List.mem_cons_self | (repeat (first | exact List.mem_cons_self | refine List.mem_cons_of_mem _ ?_)))
theorem rdf_oneC_answer {K : PySem.W.Frag} {names : List Str} {I : CI K names} {ps : List HP} {a : Addr} {dA mem : Addr} {hand first many : Nat} {av : V} {moment stamp : Int} {giver : Nat} {nth : Int} (hm0 : oneC I a dA mem hand first many av moment stamp giver nth ∈ ps) (p : (["deed", "hand", "memory", "first", "many", "answer", "moment", "stamp", "giver", "nth"] : List Str) = names) : RdF K ps a "answer" (av) := fun H s => by
  obtain ⟨l1, l2, rfl⟩ := List.append_of_mem hm0
  obtain ⟨z, s⟩ := open_oneC (.hd) (s.perm List.perm_middle)
  exact s.rf (r := []) (List.mem_cons_self ..) (by rw [List.append_nil]; exact p) (by first | exact List.mem_cons_self | (repeat (first | exact List.mem_cons_self | refine List.mem_cons_of_mem _ ?_)))
theorem rdf_oneC_moment {K : PySem.W.Frag} {names : List Str} {I : CI K names} {ps : List HP} {a : Addr} {dA mem : Addr} {hand first many : Nat} {av : V} {moment stamp : Int} {giver : Nat} {nth : Int} (hm0 : oneC I a dA mem hand first many av moment stamp giver nth ∈ ps) (p : (["deed", "hand", "memory", "first", "many", "answer", "moment", "stamp", "giver", "nth"] : List Str) = names) : RdF K ps a "moment" (.int moment) := fun H s => by
  obtain ⟨l1, l2, rfl⟩ := List.append_of_mem hm0
  obtain ⟨z, s⟩ := open_oneC (.hd) (s.perm List.perm_middle)
  exact s.rf (r := []) (List.mem_cons_self ..) (by rw [List.append_nil]; exact p) (by first | exact List.mem_cons_self | (repeat (first | exact List.mem_cons_self | refine List.mem_cons_of_mem _ ?_)))
theorem rdf_oneC_stamp {K : PySem.W.Frag} {names : List Str} {I : CI K names} {ps : List HP} {a : Addr} {dA mem : Addr} {hand first many : Nat} {av : V} {moment stamp : Int} {giver : Nat} {nth : Int} (hm0 : oneC I a dA mem hand first many av moment stamp giver nth ∈ ps) (p : (["deed", "hand", "memory", "first", "many", "answer", "moment", "stamp", "giver", "nth"] : List Str) = names) : RdF K ps a "stamp" (.int stamp) := fun H s => by
  obtain ⟨l1, l2, rfl⟩ := List.append_of_mem hm0
  obtain ⟨z, s⟩ := open_oneC (.hd) (s.perm List.perm_middle)
  exact s.rf (r := []) (List.mem_cons_self ..) (by rw [List.append_nil]; exact p) (by first | exact List.mem_cons_self | (repeat (first | exact List.mem_cons_self | refine List.mem_cons_of_mem _ ?_)))
theorem rdf_oneC_giver {K : PySem.W.Frag} {names : List Str} {I : CI K names} {ps : List HP} {a : Addr} {dA mem : Addr} {hand first many : Nat} {av : V} {moment stamp : Int} {giver : Nat} {nth : Int} (hm0 : oneC I a dA mem hand first many av moment stamp giver nth ∈ ps) (p : (["deed", "hand", "memory", "first", "many", "answer", "moment", "stamp", "giver", "nth"] : List Str) = names) : RdF K ps a "giver" (.int giver) := fun H s => by
  obtain ⟨l1, l2, rfl⟩ := List.append_of_mem hm0
  obtain ⟨z, s⟩ := open_oneC (.hd) (s.perm List.perm_middle)
  exact s.rf (r := []) (List.mem_cons_self ..) (by rw [List.append_nil]; exact p) (by first | exact List.mem_cons_self | (repeat (first | exact List.mem_cons_self | refine List.mem_cons_of_mem _ ?_)))
theorem rdf_oneC_nth {K : PySem.W.Frag} {names : List Str} {I : CI K names} {ps : List HP} {a : Addr} {dA mem : Addr} {hand first many : Nat} {av : V} {moment stamp : Int} {giver : Nat} {nth : Int} (hm0 : oneC I a dA mem hand first many av moment stamp giver nth ∈ ps) (p : (["deed", "hand", "memory", "first", "many", "answer", "moment", "stamp", "giver", "nth"] : List Str) = names) : RdF K ps a "nth" (.int nth) := fun H s => by
  obtain ⟨l1, l2, rfl⟩ := List.append_of_mem hm0
  obtain ⟨z, s⟩ := open_oneC (.hd) (s.perm List.perm_middle)
  exact s.rf (r := []) (List.mem_cons_self ..) (by rw [List.append_nil]; exact p) (by first | exact List.mem_cons_self | (repeat (first | exact List.mem_cons_self | refine List.mem_cons_of_mem _ ?_)))
@[irreducible] def countC {K : PySem.W.Frag} {names : List Str} (I : CI K names) (a : Addr) (dA mem : Addr) (hand first many : Nat) (av : V) (moment stamp : Int) (giver : Nat) (nth : Int) (row : List Int) : HP :=
  exh fun q : Addr => grp [obj I a [("deed", .ref dA), ("hand", .int hand), ("memory", .ref mem), ("first", .int first), ("many", .int many), ("answer", av), ("moment", .int moment), ("stamp", .int stamp), ("giver", .int giver), ("nth", .int nth), ("row", .ref q)],
    pt q (.lst (row.map V.int))]
theorem open_countC {K : PySem.W.Frag} {names : List Str} {I : CI K names} {ps R : List HP} {a : Addr} {dA mem : Addr} {hand first many : Nat} {av : V} {moment stamp : Int} {giver : Nat} {nth : Int} {row : List Int} {H : Hp} (pk : Pick (countC I a dA mem hand first many av moment stamp giver nth row) ps R) (zs : Sat H ps) : ∃ z : Addr, Sat H (obj I a [("deed", .ref dA), ("hand", .int hand), ("memory", .ref mem), ("first", .int first), ("many", .int many), ("answer", av), ("moment", .int moment), ("stamp", .int stamp), ("giver", .int giver), ("nth", .int nth), ("row", .ref z)] :: pt z (.lst (row.map V.int)) :: R) := by
  have zs := zs.perm pk.perm
  unfold countC at zs
  obtain ⟨q, zs⟩ := Sat.ex.mp zs
  exact ⟨q, Sat.grp.mp zs⟩
theorem ent_countC {K : PySem.W.Frag} {names : List Str} {I : CI K names} {R : List HP} {a : Addr} {dA mem : Addr} {hand first many : Nat} {av : V} {moment stamp : Int} {giver : Nat} {nth : Int} {row : List Int} {q1 : Addr} : Ent (obj I a [("deed", .ref dA), ("hand", .int hand), ("memory", .ref mem), ("first", .int first), ("many", .int many), ("answer", av), ("moment", .int moment), ("stamp", .int stamp), ("giver", .int giver), ("nth", .int nth), ("row", .ref q1)] :: pt q1 (.lst (row.map V.int)) :: R) (countC I a dA mem hand first many av moment stamp giver nth row :: R) := fun H z => by
  unfold countC
  exact Sat.ex.mpr ⟨(q1), Sat.grp.mpr z⟩
theorem rdf_countC_deed {K : PySem.W.Frag} {names : List Str} {I : CI K names} {ps : List HP} {a : Addr} {dA mem : Addr} {hand first many : Nat} {av : V} {moment stamp : Int} {giver : Nat} {nth : Int} {row : List Int} (hm0 : countC I a dA mem hand first many av moment stamp giver nth row ∈ ps) (p : (["deed", "hand", "memory", "first", "many", "answer", "moment", "stamp", "giver", "nth", "row"] : List Str) = names) : RdF K ps a "deed" (.ref dA) := fun H s => by
  obtain ⟨l1, l2, rfl⟩ := List.append_of_mem hm0
  obtain ⟨z, s⟩ := open_countC (.hd) (s.perm List.perm_middle)
  exact s.rf (r := []) (List.mem_cons_self ..) (by rw [List.append_nil]; exact p) (by first | exact List.mem_cons_self | (repeat (first | exact List.mem_cons_self | refine List.mem_cons_of_mem _ ?_)))
theorem rdf_countC_hand {K : PySem.W.Frag} {names : List Str} {I : CI K names} {ps : List HP} {a : Addr} {dA mem : Addr} {hand first many : Nat} {av : V} {moment stamp : Int} {giver : Nat} {nth : Int} {row : List Int} (hm0 : countC I a dA mem hand first many av moment stamp giver nth row ∈ ps) (p : (["deed", "hand", "memory", "first", "many", "answer", "moment", "stamp", "giver", "nth", "row"] : List Str) = names) : RdF K ps a "hand" (.int hand) := fun H s => by
  obtain ⟨l1, l2, rfl⟩ := List.append_of_mem hm0
  obtain ⟨z, s⟩ := open_countC (.hd) (s.perm List.perm_middle)
  exact s.rf (r := []) (List.mem_cons_self ..) (by rw [List.append_nil]; exact p) (by first | exact List.mem_cons_self | (repeat (first | exact List.mem_cons_self | refine List.mem_cons_of_mem _ ?_)))
theorem rdf_countC_answer {K : PySem.W.Frag} {names : List Str} {I : CI K names} {ps : List HP} {a : Addr} {dA mem : Addr} {hand first many : Nat} {av : V} {moment stamp : Int} {giver : Nat} {nth : Int} {row : List Int} (hm0 : countC I a dA mem hand first many av moment stamp giver nth row ∈ ps) (p : (["deed", "hand", "memory", "first", "many", "answer", "moment", "stamp", "giver", "nth", "row"] : List Str) = names) : RdF K ps a "answer" (av) := fun H s => by
  obtain ⟨l1, l2, rfl⟩ := List.append_of_mem hm0
  obtain ⟨z, s⟩ := open_countC (.hd) (s.perm List.perm_middle)
  exact s.rf (r := []) (List.mem_cons_self ..) (by rw [List.append_nil]; exact p) (by first | exact List.mem_cons_self | (repeat (first | exact List.mem_cons_self | refine List.mem_cons_of_mem _ ?_)))
theorem rdf_countC_moment {K : PySem.W.Frag} {names : List Str} {I : CI K names} {ps : List HP} {a : Addr} {dA mem : Addr} {hand first many : Nat} {av : V} {moment stamp : Int} {giver : Nat} {nth : Int} {row : List Int} (hm0 : countC I a dA mem hand first many av moment stamp giver nth row ∈ ps) (p : (["deed", "hand", "memory", "first", "many", "answer", "moment", "stamp", "giver", "nth", "row"] : List Str) = names) : RdF K ps a "moment" (.int moment) := fun H s => by
  obtain ⟨l1, l2, rfl⟩ := List.append_of_mem hm0
  obtain ⟨z, s⟩ := open_countC (.hd) (s.perm List.perm_middle)
  exact s.rf (r := []) (List.mem_cons_self ..) (by rw [List.append_nil]; exact p) (by first | exact List.mem_cons_self | (repeat (first | exact List.mem_cons_self | refine List.mem_cons_of_mem _ ?_)))
theorem rdf_countC_stamp {K : PySem.W.Frag} {names : List Str} {I : CI K names} {ps : List HP} {a : Addr} {dA mem : Addr} {hand first many : Nat} {av : V} {moment stamp : Int} {giver : Nat} {nth : Int} {row : List Int} (hm0 : countC I a dA mem hand first many av moment stamp giver nth row ∈ ps) (p : (["deed", "hand", "memory", "first", "many", "answer", "moment", "stamp", "giver", "nth", "row"] : List Str) = names) : RdF K ps a "stamp" (.int stamp) := fun H s => by
  obtain ⟨l1, l2, rfl⟩ := List.append_of_mem hm0
  obtain ⟨z, s⟩ := open_countC (.hd) (s.perm List.perm_middle)
  exact s.rf (r := []) (List.mem_cons_self ..) (by rw [List.append_nil]; exact p) (by first | exact List.mem_cons_self | (repeat (first | exact List.mem_cons_self | refine List.mem_cons_of_mem _ ?_)))
theorem rdf_countC_giver {K : PySem.W.Frag} {names : List Str} {I : CI K names} {ps : List HP} {a : Addr} {dA mem : Addr} {hand first many : Nat} {av : V} {moment stamp : Int} {giver : Nat} {nth : Int} {row : List Int} (hm0 : countC I a dA mem hand first many av moment stamp giver nth row ∈ ps) (p : (["deed", "hand", "memory", "first", "many", "answer", "moment", "stamp", "giver", "nth", "row"] : List Str) = names) : RdF K ps a "giver" (.int giver) := fun H s => by
  obtain ⟨l1, l2, rfl⟩ := List.append_of_mem hm0
  obtain ⟨z, s⟩ := open_countC (.hd) (s.perm List.perm_middle)
  exact s.rf (r := []) (List.mem_cons_self ..) (by rw [List.append_nil]; exact p) (by first | exact List.mem_cons_self | (repeat (first | exact List.mem_cons_self | refine List.mem_cons_of_mem _ ?_)))
theorem rdf_countC_nth {K : PySem.W.Frag} {names : List Str} {I : CI K names} {ps : List HP} {a : Addr} {dA mem : Addr} {hand first many : Nat} {av : V} {moment stamp : Int} {giver : Nat} {nth : Int} {row : List Int} (hm0 : countC I a dA mem hand first many av moment stamp giver nth row ∈ ps) (p : (["deed", "hand", "memory", "first", "many", "answer", "moment", "stamp", "giver", "nth", "row"] : List Str) = names) : RdF K ps a "nth" (.int nth) := fun H s => by
  obtain ⟨l1, l2, rfl⟩ := List.append_of_mem hm0
  obtain ⟨z, s⟩ := open_countC (.hd) (s.perm List.perm_middle)
  exact s.rf (r := []) (List.mem_cons_self ..) (by rw [List.append_nil]; exact p) (by first | exact List.mem_cons_self | (repeat (first | exact List.mem_cons_self | refine List.mem_cons_of_mem _ ?_)))
@[irreducible] def scanWC {K : PySem.W.Frag} {names : List Str} (I : CI K names) (a : Addr) (dA mem : Addr) (hand first many : Nat) (av : V) (moment stamp : Int) (giver : Nat) (nth : Int) (sc : Addr) : HP :=
  exh fun q : Unit => grp [obj I a [("deed", .ref dA), ("hand", .int hand), ("memory", .ref mem), ("first", .int first), ("many", .int many), ("answer", av), ("moment", .int moment), ("stamp", .int stamp), ("giver", .int giver), ("nth", .int nth), ("scan", .ref sc)]]
theorem open_scanWC {K : PySem.W.Frag} {names : List Str} {I : CI K names} {ps R : List HP} {a : Addr} {dA mem : Addr} {hand first many : Nat} {av : V} {moment stamp : Int} {giver : Nat} {nth : Int} {sc : Addr} {H : Hp} (pk : Pick (scanWC I a dA mem hand first many av moment stamp giver nth sc) ps R) (zs : Sat H ps) : ∃ z : Unit, Sat H (obj I a [("deed", .ref dA), ("hand", .int hand), ("memory", .ref mem), ("first", .int first), ("many", .int many), ("answer", av), ("moment", .int moment), ("stamp", .int stamp), ("giver", .int giver), ("nth", .int nth), ("scan", .ref sc)] :: R) := by
  have zs := zs.perm pk.perm
  unfold scanWC at zs
  obtain ⟨q, zs⟩ := Sat.ex.mp zs
  exact ⟨q, Sat.grp.mp zs⟩
theorem ent_scanWC {K : PySem.W.Frag} {names : List Str} {I : CI K names} {R : List HP} {a : Addr} {dA mem : Addr} {hand first many : Nat} {av : V} {moment stamp : Int} {giver : Nat} {nth : Int} {sc : Addr}  : Ent (obj I a [("deed", .ref dA), ("hand", .int hand), ("memory", .ref mem), ("first", .int first), ("many", .int many), ("answer", av), ("moment", .int moment), ("stamp", .int stamp), ("giver", .int giver), ("nth", .int nth), ("scan", .ref sc)] :: R) (scanWC I a dA mem hand first many av moment stamp giver nth sc :: R) := fun H z => by
  unfold scanWC
  exact Sat.ex.mpr ⟨(), Sat.grp.mpr z⟩
theorem rdf_scanWC_deed {K : PySem.W.Frag} {names : List Str} {I : CI K names} {ps : List HP} {a : Addr} {dA mem : Addr} {hand first many : Nat} {av : V} {moment stamp : Int} {giver : Nat} {nth : Int} {sc : Addr} (hm0 : scanWC I a dA mem hand first many av moment stamp giver nth sc ∈ ps) (p : (["deed", "hand", "memory", "first", "many", "answer", "moment", "stamp", "giver", "nth", "scan"] : List Str) = names) : RdF K ps a "deed" (.ref dA) := fun H s => by
  obtain ⟨l1, l2, rfl⟩ := List.append_of_mem hm0
  obtain ⟨z, s⟩ := open_scanWC (.hd) (s.perm List.perm_middle)
  exact s.rf (r := []) (List.mem_cons_self ..) (by rw [List.append_nil]; exact p) (by first | exact List.mem_cons_self | (repeat (first | exact List.mem_cons_self | refine List.mem_cons_of_mem _ ?_)))
theorem rdf_scanWC_hand {K : PySem.W.Frag} {names : List Str} {I : CI K names} {ps : List HP} {a : Addr} {dA mem : Addr} {hand first many : Nat} {av : V} {moment stamp : Int} {giver : Nat} {nth : Int} {sc : Addr} (hm0 : scanWC I a dA mem hand first many av moment stamp giver nth sc ∈ ps) (p : (["deed", "hand", "memory", "first", "many", "answer", "moment", "stamp", "giver", "nth", "scan"] : List Str) = names) : RdF K ps a "hand" (.int hand) := fun H s => by
  obtain ⟨l1, l2, rfl⟩ := List.append_of_mem hm0
  obtain ⟨z, s⟩ := open_scanWC (.hd) (s.perm List.perm_middle)
  exact s.rf (r := []) (List.mem_cons_self ..) (by rw [List.append_nil]; exact p) (by first | exact List.mem_cons_self | (repeat (first | exact List.mem_cons_self | refine List.mem_cons_of_mem _ ?_)))
theorem rdf_scanWC_answer {K : PySem.W.Frag} {names : List Str} {I : CI K names} {ps : List HP} {a : Addr} {dA mem : Addr} {hand first many : Nat} {av : V} {moment stamp : Int} {giver : Nat} {nth : Int} {sc : Addr} (hm0 : scanWC I a dA mem hand first many av moment stamp giver nth sc ∈ ps) (p : (["deed", "hand", "memory", "first", "many", "answer", "moment", "stamp", "giver", "nth", "scan"] : List Str) = names) : RdF K ps a "answer" (av) := fun H s => by
  obtain ⟨l1, l2, rfl⟩ := List.append_of_mem hm0
  obtain ⟨z, s⟩ := open_scanWC (.hd) (s.perm List.perm_middle)
  exact s.rf (r := []) (List.mem_cons_self ..) (by rw [List.append_nil]; exact p) (by first | exact List.mem_cons_self | (repeat (first | exact List.mem_cons_self | refine List.mem_cons_of_mem _ ?_)))
theorem rdf_scanWC_moment {K : PySem.W.Frag} {names : List Str} {I : CI K names} {ps : List HP} {a : Addr} {dA mem : Addr} {hand first many : Nat} {av : V} {moment stamp : Int} {giver : Nat} {nth : Int} {sc : Addr} (hm0 : scanWC I a dA mem hand first many av moment stamp giver nth sc ∈ ps) (p : (["deed", "hand", "memory", "first", "many", "answer", "moment", "stamp", "giver", "nth", "scan"] : List Str) = names) : RdF K ps a "moment" (.int moment) := fun H s => by
  obtain ⟨l1, l2, rfl⟩ := List.append_of_mem hm0
  obtain ⟨z, s⟩ := open_scanWC (.hd) (s.perm List.perm_middle)
  exact s.rf (r := []) (List.mem_cons_self ..) (by rw [List.append_nil]; exact p) (by first | exact List.mem_cons_self | (repeat (first | exact List.mem_cons_self | refine List.mem_cons_of_mem _ ?_)))
theorem rdf_scanWC_stamp {K : PySem.W.Frag} {names : List Str} {I : CI K names} {ps : List HP} {a : Addr} {dA mem : Addr} {hand first many : Nat} {av : V} {moment stamp : Int} {giver : Nat} {nth : Int} {sc : Addr} (hm0 : scanWC I a dA mem hand first many av moment stamp giver nth sc ∈ ps) (p : (["deed", "hand", "memory", "first", "many", "answer", "moment", "stamp", "giver", "nth", "scan"] : List Str) = names) : RdF K ps a "stamp" (.int stamp) := fun H s => by
  obtain ⟨l1, l2, rfl⟩ := List.append_of_mem hm0
  obtain ⟨z, s⟩ := open_scanWC (.hd) (s.perm List.perm_middle)
  exact s.rf (r := []) (List.mem_cons_self ..) (by rw [List.append_nil]; exact p) (by first | exact List.mem_cons_self | (repeat (first | exact List.mem_cons_self | refine List.mem_cons_of_mem _ ?_)))
theorem rdf_scanWC_giver {K : PySem.W.Frag} {names : List Str} {I : CI K names} {ps : List HP} {a : Addr} {dA mem : Addr} {hand first many : Nat} {av : V} {moment stamp : Int} {giver : Nat} {nth : Int} {sc : Addr} (hm0 : scanWC I a dA mem hand first many av moment stamp giver nth sc ∈ ps) (p : (["deed", "hand", "memory", "first", "many", "answer", "moment", "stamp", "giver", "nth", "scan"] : List Str) = names) : RdF K ps a "giver" (.int giver) := fun H s => by
  obtain ⟨l1, l2, rfl⟩ := List.append_of_mem hm0
  obtain ⟨z, s⟩ := open_scanWC (.hd) (s.perm List.perm_middle)
  exact s.rf (r := []) (List.mem_cons_self ..) (by rw [List.append_nil]; exact p) (by first | exact List.mem_cons_self | (repeat (first | exact List.mem_cons_self | refine List.mem_cons_of_mem _ ?_)))
theorem rdf_scanWC_nth {K : PySem.W.Frag} {names : List Str} {I : CI K names} {ps : List HP} {a : Addr} {dA mem : Addr} {hand first many : Nat} {av : V} {moment stamp : Int} {giver : Nat} {nth : Int} {sc : Addr} (hm0 : scanWC I a dA mem hand first many av moment stamp giver nth sc ∈ ps) (p : (["deed", "hand", "memory", "first", "many", "answer", "moment", "stamp", "giver", "nth", "scan"] : List Str) = names) : RdF K ps a "nth" (.int nth) := fun H s => by
  obtain ⟨l1, l2, rfl⟩ := List.append_of_mem hm0
  obtain ⟨z, s⟩ := open_scanWC (.hd) (s.perm List.perm_middle)
  exact s.rf (r := []) (List.mem_cons_self ..) (by rw [List.append_nil]; exact p) (by first | exact List.mem_cons_self | (repeat (first | exact List.mem_cons_self | refine List.mem_cons_of_mem _ ?_)))
@[irreducible] def giveC {K : PySem.W.Frag} {names : List Str} (I : CI K names) (a : Addr) (dA mem : Addr) (hand first many : Nat) (av : V) (moment stamp : Int) (giver : Nat) (nth : Int) (read : Nat) : HP :=
  exh fun q : Unit => grp [obj I a [("deed", .ref dA), ("hand", .int hand), ("memory", .ref mem), ("first", .int first), ("many", .int many), ("answer", av), ("moment", .int moment), ("stamp", .int stamp), ("giver", .int giver), ("nth", .int nth), ("read", .int read)]]
theorem open_giveC {K : PySem.W.Frag} {names : List Str} {I : CI K names} {ps R : List HP} {a : Addr} {dA mem : Addr} {hand first many : Nat} {av : V} {moment stamp : Int} {giver : Nat} {nth : Int} {read : Nat} {H : Hp} (pk : Pick (giveC I a dA mem hand first many av moment stamp giver nth read) ps R) (zs : Sat H ps) : ∃ z : Unit, Sat H (obj I a [("deed", .ref dA), ("hand", .int hand), ("memory", .ref mem), ("first", .int first), ("many", .int many), ("answer", av), ("moment", .int moment), ("stamp", .int stamp), ("giver", .int giver), ("nth", .int nth), ("read", .int read)] :: R) := by
  have zs := zs.perm pk.perm
  unfold giveC at zs
  obtain ⟨q, zs⟩ := Sat.ex.mp zs
  exact ⟨q, Sat.grp.mp zs⟩
theorem fldG_giveC {K : PySem.W.Frag} {names : List Str} {I : CI K names} {ps R : List HP} {a : Addr} {dA mem : Addr} {hand first many : Nat} {av : V} {moment stamp : Int} {giver : Nat} {nth : Int} {read : Nat} {f : Str} {Φ : V → List HP → Prop} (pk : Pick (giveC I a dA mem hand first many av moment stamp giver nth read) ps R) (h : FldG K (.ref a) f (obj I a [("deed", .ref dA), ("hand", .int hand), ("memory", .ref mem), ("first", .int first), ("many", .int many), ("answer", av), ("moment", .int moment), ("stamp", .int stamp), ("giver", .int giver), ("nth", .int nth), ("read", .int read)] :: R) Φ) : FldG K (.ref a) f ps Φ := FldG.open (fun H s => open_giveC pk s) fun _ => h
theorem fldS_giveC {K : PySem.W.Frag} {names : List Str} {I : CI K names} {ps R : List HP} {a : Addr} {dA mem : Addr} {hand first many : Nat} {av : V} {moment stamp : Int} {giver : Nat} {nth : Int} {read : Nat} {f : Str} {y : V} {k : List HP → Prop} (pk : Pick (giveC I a dA mem hand first many av moment stamp giver nth read) ps R) (h : FldS K (.ref a) f y (obj I a [("deed", .ref dA), ("hand", .int hand), ("memory", .ref mem), ("first", .int first), ("many", .int many), ("answer", av), ("moment", .int moment), ("stamp", .int stamp), ("giver", .int giver), ("nth", .int nth), ("read", .int read)] :: R) k) : FldS K (.ref a) f y ps k := FldS.open (fun H s => open_giveC pk s) fun _ => h
theorem ent_giveC {K : PySem.W.Frag} {names : List Str} {I : CI K names} {R : List HP} {a : Addr} {dA mem : Addr} {hand first many : Nat} {av : V} {moment stamp : Int} {giver : Nat} {nth : Int} {read : Nat}  : Ent (obj I a [("deed", .ref dA), ("hand", .int hand), ("memory", .ref mem), ("first", .int first), ("many", .int many), ("answer", av), ("moment", .int moment), ("stamp", .int stamp), ("giver", .int giver), ("nth", .int nth), ("read", .int read)] :: R) (giveC I a dA mem hand first many av moment stamp giver nth read :: R) := fun H z => by
  unfold giveC
  exact Sat.ex.mpr ⟨(), Sat.grp.mpr z⟩
theorem rdf_giveC_deed {K : PySem.W.Frag} {names : List Str} {I : CI K names} {ps : List HP} {a : Addr} {dA mem : Addr} {hand first many : Nat} {av : V} {moment stamp : Int} {giver : Nat} {nth : Int} {read : Nat} (hm0 : giveC I a dA mem hand first many av moment stamp giver nth read ∈ ps) (p : (["deed", "hand", "memory", "first", "many", "answer", "moment", "stamp", "giver", "nth", "read"] : List Str) = names) : RdF K ps a "deed" (.ref dA) := fun H s => by
  obtain ⟨l1, l2, rfl⟩ := List.append_of_mem hm0
  obtain ⟨z, s⟩ := open_giveC (.hd) (s.perm List.perm_middle)
  exact s.rf (r := []) (List.mem_cons_self ..) (by rw [List.append_nil]; exact p) (by first | exact List.mem_cons_self | (repeat (first | exact List.mem_cons_self | refine List.mem_cons_of_mem _ ?_)))
theorem rdf_giveC_hand {K : PySem.W.Frag} {names : List Str} {I : CI K names} {ps : List HP} {a : Addr} {dA mem : Addr} {hand first many : Nat} {av : V} {moment stamp : Int} {giver : Nat} {nth : Int} {read : Nat} (hm0 : giveC I a dA mem hand first many av moment stamp giver nth read ∈ ps) (p : (["deed", "hand", "memory", "first", "many", "answer", "moment", "stamp", "giver", "nth", "read"] : List Str) = names) : RdF K ps a "hand" (.int hand) := fun H s => by
  obtain ⟨l1, l2, rfl⟩ := List.append_of_mem hm0
  obtain ⟨z, s⟩ := open_giveC (.hd) (s.perm List.perm_middle)
  exact s.rf (r := []) (List.mem_cons_self ..) (by rw [List.append_nil]; exact p) (by first | exact List.mem_cons_self | (repeat (first | exact List.mem_cons_self | refine List.mem_cons_of_mem _ ?_)))
theorem rdf_giveC_answer {K : PySem.W.Frag} {names : List Str} {I : CI K names} {ps : List HP} {a : Addr} {dA mem : Addr} {hand first many : Nat} {av : V} {moment stamp : Int} {giver : Nat} {nth : Int} {read : Nat} (hm0 : giveC I a dA mem hand first many av moment stamp giver nth read ∈ ps) (p : (["deed", "hand", "memory", "first", "many", "answer", "moment", "stamp", "giver", "nth", "read"] : List Str) = names) : RdF K ps a "answer" (av) := fun H s => by
  obtain ⟨l1, l2, rfl⟩ := List.append_of_mem hm0
  obtain ⟨z, s⟩ := open_giveC (.hd) (s.perm List.perm_middle)
  exact s.rf (r := []) (List.mem_cons_self ..) (by rw [List.append_nil]; exact p) (by first | exact List.mem_cons_self | (repeat (first | exact List.mem_cons_self | refine List.mem_cons_of_mem _ ?_)))
theorem rdf_giveC_moment {K : PySem.W.Frag} {names : List Str} {I : CI K names} {ps : List HP} {a : Addr} {dA mem : Addr} {hand first many : Nat} {av : V} {moment stamp : Int} {giver : Nat} {nth : Int} {read : Nat} (hm0 : giveC I a dA mem hand first many av moment stamp giver nth read ∈ ps) (p : (["deed", "hand", "memory", "first", "many", "answer", "moment", "stamp", "giver", "nth", "read"] : List Str) = names) : RdF K ps a "moment" (.int moment) := fun H s => by
  obtain ⟨l1, l2, rfl⟩ := List.append_of_mem hm0
  obtain ⟨z, s⟩ := open_giveC (.hd) (s.perm List.perm_middle)
  exact s.rf (r := []) (List.mem_cons_self ..) (by rw [List.append_nil]; exact p) (by first | exact List.mem_cons_self | (repeat (first | exact List.mem_cons_self | refine List.mem_cons_of_mem _ ?_)))
theorem rdf_giveC_stamp {K : PySem.W.Frag} {names : List Str} {I : CI K names} {ps : List HP} {a : Addr} {dA mem : Addr} {hand first many : Nat} {av : V} {moment stamp : Int} {giver : Nat} {nth : Int} {read : Nat} (hm0 : giveC I a dA mem hand first many av moment stamp giver nth read ∈ ps) (p : (["deed", "hand", "memory", "first", "many", "answer", "moment", "stamp", "giver", "nth", "read"] : List Str) = names) : RdF K ps a "stamp" (.int stamp) := fun H s => by
  obtain ⟨l1, l2, rfl⟩ := List.append_of_mem hm0
  obtain ⟨z, s⟩ := open_giveC (.hd) (s.perm List.perm_middle)
  exact s.rf (r := []) (List.mem_cons_self ..) (by rw [List.append_nil]; exact p) (by first | exact List.mem_cons_self | (repeat (first | exact List.mem_cons_self | refine List.mem_cons_of_mem _ ?_)))
theorem rdf_giveC_giver {K : PySem.W.Frag} {names : List Str} {I : CI K names} {ps : List HP} {a : Addr} {dA mem : Addr} {hand first many : Nat} {av : V} {moment stamp : Int} {giver : Nat} {nth : Int} {read : Nat} (hm0 : giveC I a dA mem hand first many av moment stamp giver nth read ∈ ps) (p : (["deed", "hand", "memory", "first", "many", "answer", "moment", "stamp", "giver", "nth", "read"] : List Str) = names) : RdF K ps a "giver" (.int giver) := fun H s => by
  obtain ⟨l1, l2, rfl⟩ := List.append_of_mem hm0
  obtain ⟨z, s⟩ := open_giveC (.hd) (s.perm List.perm_middle)
  exact s.rf (r := []) (List.mem_cons_self ..) (by rw [List.append_nil]; exact p) (by first | exact List.mem_cons_self | (repeat (first | exact List.mem_cons_self | refine List.mem_cons_of_mem _ ?_)))
theorem rdf_giveC_nth {K : PySem.W.Frag} {names : List Str} {I : CI K names} {ps : List HP} {a : Addr} {dA mem : Addr} {hand first many : Nat} {av : V} {moment stamp : Int} {giver : Nat} {nth : Int} {read : Nat} (hm0 : giveC I a dA mem hand first many av moment stamp giver nth read ∈ ps) (p : (["deed", "hand", "memory", "first", "many", "answer", "moment", "stamp", "giver", "nth", "read"] : List Str) = names) : RdF K ps a "nth" (.int nth) := fun H s => by
  obtain ⟨l1, l2, rfl⟩ := List.append_of_mem hm0
  obtain ⟨z, s⟩ := open_giveC (.hd) (s.perm List.perm_middle)
  exact s.rf (r := []) (List.mem_cons_self ..) (by rw [List.append_nil]; exact p) (by first | exact List.mem_cons_self | (repeat (first | exact List.mem_cons_self | refine List.mem_cons_of_mem _ ?_)))
@[irreducible] def takeC {K : PySem.W.Frag} {names : List Str} (I : CI K names) (a : Addr) (dA mem : Addr) (hand first many : Nat) (av : V) (moment stamp : Int) (giver : Nat) (nth : Int) (rows : List (List Int)) (again : Bool) : HP :=
  exh fun q : Addr => grp [obj I a [("deed", .ref dA), ("hand", .int hand), ("memory", .ref mem), ("first", .int first), ("many", .int many), ("answer", av), ("moment", .int moment), ("stamp", .int stamp), ("giver", .int giver), ("nth", .int nth), ("rows", .ref q), ("again", .bl again)],
    listsC q rows]
theorem open_takeC {K : PySem.W.Frag} {names : List Str} {I : CI K names} {ps R : List HP} {a : Addr} {dA mem : Addr} {hand first many : Nat} {av : V} {moment stamp : Int} {giver : Nat} {nth : Int} {rows : List (List Int)} {again : Bool} {H : Hp} (pk : Pick (takeC I a dA mem hand first many av moment stamp giver nth rows again) ps R) (zs : Sat H ps) : ∃ z : Addr, Sat H (obj I a [("deed", .ref dA), ("hand", .int hand), ("memory", .ref mem), ("first", .int first), ("many", .int many), ("answer", av), ("moment", .int moment), ("stamp", .int stamp), ("giver", .int giver), ("nth", .int nth), ("rows", .ref z), ("again", .bl again)] :: listsC z rows :: R) := by
  have zs := zs.perm pk.perm
  unfold takeC at zs
  obtain ⟨q, zs⟩ := Sat.ex.mp zs
  exact ⟨q, Sat.grp.mp zs⟩
theorem ent_takeC {K : PySem.W.Frag} {names : List Str} {I : CI K names} {R : List HP} {a : Addr} {dA mem : Addr} {hand first many : Nat} {av : V} {moment stamp : Int} {giver : Nat} {nth : Int} {rows : List (List Int)} {again : Bool} {q1 : Addr} : Ent (obj I a [("deed", .ref dA), ("hand", .int hand), ("memory", .ref mem), ("first", .int first), ("many", .int many), ("answer", av), ("moment", .int moment), ("stamp", .int stamp), ("giver", .int giver), ("nth", .int nth), ("rows", .ref q1), ("again", .bl again)] :: listsC q1 rows :: R) (takeC I a dA mem hand first many av moment stamp giver nth rows again :: R) := fun H z => by
  unfold takeC
  exact Sat.ex.mpr ⟨(q1), Sat.grp.mpr z⟩
theorem rdf_takeC_deed {K : PySem.W.Frag} {names : List Str} {I : CI K names} {ps : List HP} {a : Addr} {dA mem : Addr} {hand first many : Nat} {av : V} {moment stamp : Int} {giver : Nat} {nth : Int} {rows : List (List Int)} {again : Bool} (hm0 : takeC I a dA mem hand first many av moment stamp giver nth rows again ∈ ps) (p : (["deed", "hand", "memory", "first", "many", "answer", "moment", "stamp", "giver", "nth", "rows", "again"] : List Str) = names) : RdF K ps a "deed" (.ref dA) := fun H s => by
  obtain ⟨l1, l2, rfl⟩ := List.append_of_mem hm0
  obtain ⟨z, s⟩ := open_takeC (.hd) (s.perm List.perm_middle)
  exact s.rf (r := []) (List.mem_cons_self ..) (by rw [List.append_nil]; exact p) (by first | exact List.mem_cons_self | (repeat (first | exact List.mem_cons_self | refine List.mem_cons_of_mem _ ?_)))
theorem rdf_takeC_hand {K : PySem.W.Frag} {names : List Str} {I : CI K names} {ps : List HP} {a : Addr} {dA mem : Addr} {hand first many : Nat} {av : V} {moment stamp : Int} {giver : Nat} {nth : Int} {rows : List (List Int)} {again : Bool} (hm0 : takeC I a dA mem hand first many av moment stamp giver nth rows again ∈ ps) (p : (["deed", "hand", "memory", "first", "many", "answer", "moment", "stamp", "giver", "nth", "rows", "again"] : List Str) = names) : RdF K ps a "hand" (.int hand) := fun H s => by
  obtain ⟨l1, l2, rfl⟩ := List.append_of_mem hm0
  obtain ⟨z, s⟩ := open_takeC (.hd) (s.perm List.perm_middle)
  exact s.rf (r := []) (List.mem_cons_self ..) (by rw [List.append_nil]; exact p) (by first | exact List.mem_cons_self | (repeat (first | exact List.mem_cons_self | refine List.mem_cons_of_mem _ ?_)))
theorem rdf_takeC_answer {K : PySem.W.Frag} {names : List Str} {I : CI K names} {ps : List HP} {a : Addr} {dA mem : Addr} {hand first many : Nat} {av : V} {moment stamp : Int} {giver : Nat} {nth : Int} {rows : List (List Int)} {again : Bool} (hm0 : takeC I a dA mem hand first many av moment stamp giver nth rows again ∈ ps) (p : (["deed", "hand", "memory", "first", "many", "answer", "moment", "stamp", "giver", "nth", "rows", "again"] : List Str) = names) : RdF K ps a "answer" (av) := fun H s => by
  obtain ⟨l1, l2, rfl⟩ := List.append_of_mem hm0
  obtain ⟨z, s⟩ := open_takeC (.hd) (s.perm List.perm_middle)
  exact s.rf (r := []) (List.mem_cons_self ..) (by rw [List.append_nil]; exact p) (by first | exact List.mem_cons_self | (repeat (first | exact List.mem_cons_self | refine List.mem_cons_of_mem _ ?_)))
theorem rdf_takeC_moment {K : PySem.W.Frag} {names : List Str} {I : CI K names} {ps : List HP} {a : Addr} {dA mem : Addr} {hand first many : Nat} {av : V} {moment stamp : Int} {giver : Nat} {nth : Int} {rows : List (List Int)} {again : Bool} (hm0 : takeC I a dA mem hand first many av moment stamp giver nth rows again ∈ ps) (p : (["deed", "hand", "memory", "first", "many", "answer", "moment", "stamp", "giver", "nth", "rows", "again"] : List Str) = names) : RdF K ps a "moment" (.int moment) := fun H s => by
  obtain ⟨l1, l2, rfl⟩ := List.append_of_mem hm0
  obtain ⟨z, s⟩ := open_takeC (.hd) (s.perm List.perm_middle)
  exact s.rf (r := []) (List.mem_cons_self ..) (by rw [List.append_nil]; exact p) (by first | exact List.mem_cons_self | (repeat (first | exact List.mem_cons_self | refine List.mem_cons_of_mem _ ?_)))
theorem rdf_takeC_stamp {K : PySem.W.Frag} {names : List Str} {I : CI K names} {ps : List HP} {a : Addr} {dA mem : Addr} {hand first many : Nat} {av : V} {moment stamp : Int} {giver : Nat} {nth : Int} {rows : List (List Int)} {again : Bool} (hm0 : takeC I a dA mem hand first many av moment stamp giver nth rows again ∈ ps) (p : (["deed", "hand", "memory", "first", "many", "answer", "moment", "stamp", "giver", "nth", "rows", "again"] : List Str) = names) : RdF K ps a "stamp" (.int stamp) := fun H s => by
  obtain ⟨l1, l2, rfl⟩ := List.append_of_mem hm0
  obtain ⟨z, s⟩ := open_takeC (.hd) (s.perm List.perm_middle)
  exact s.rf (r := []) (List.mem_cons_self ..) (by rw [List.append_nil]; exact p) (by first | exact List.mem_cons_self | (repeat (first | exact List.mem_cons_self | refine List.mem_cons_of_mem _ ?_)))
theorem rdf_takeC_giver {K : PySem.W.Frag} {names : List Str} {I : CI K names} {ps : List HP} {a : Addr} {dA mem : Addr} {hand first many : Nat} {av : V} {moment stamp : Int} {giver : Nat} {nth : Int} {rows : List (List Int)} {again : Bool} (hm0 : takeC I a dA mem hand first many av moment stamp giver nth rows again ∈ ps) (p : (["deed", "hand", "memory", "first", "many", "answer", "moment", "stamp", "giver", "nth", "rows", "again"] : List Str) = names) : RdF K ps a "giver" (.int giver) := fun H s => by
  obtain ⟨l1, l2, rfl⟩ := List.append_of_mem hm0
  obtain ⟨z, s⟩ := open_takeC (.hd) (s.perm List.perm_middle)
  exact s.rf (r := []) (List.mem_cons_self ..) (by rw [List.append_nil]; exact p) (by first | exact List.mem_cons_self | (repeat (first | exact List.mem_cons_self | refine List.mem_cons_of_mem _ ?_)))
theorem rdf_takeC_nth {K : PySem.W.Frag} {names : List Str} {I : CI K names} {ps : List HP} {a : Addr} {dA mem : Addr} {hand first many : Nat} {av : V} {moment stamp : Int} {giver : Nat} {nth : Int} {rows : List (List Int)} {again : Bool} (hm0 : takeC I a dA mem hand first many av moment stamp giver nth rows again ∈ ps) (p : (["deed", "hand", "memory", "first", "many", "answer", "moment", "stamp", "giver", "nth", "rows", "again"] : List Str) = names) : RdF K ps a "nth" (.int nth) := fun H s => by
  obtain ⟨l1, l2, rfl⟩ := List.append_of_mem hm0
  obtain ⟨z, s⟩ := open_takeC (.hd) (s.perm List.perm_middle)
  exact s.rf (r := []) (List.mem_cons_self ..) (by rw [List.append_nil]; exact p) (by first | exact List.mem_cons_self | (repeat (first | exact List.mem_cons_self | refine List.mem_cons_of_mem _ ?_)))
end Sp
namespace Sp
open PySem PySem.Spec PyProof.Rows L2 Mir
section
variable {R ps : List HP} {p q : Addr} {l : List Int} {v : V} {o : Option (List Int)} {α : Type}
theorem optN : Ent R (optC .non none :: R) := fun H s => by unfold optC; exact Sat.pur.mpr ⟨rfl, s⟩
theorem optL : Ent (pt p (.lst (l.map V.int)) :: R) (optC (.ref p) (some l) :: R) := fun H s => by
  unfold optC
  exact Sat.ex.mpr ⟨p, Sat.grp.mpr (Sat.pur.mpr ⟨rfl, s⟩)⟩
variable {n i : Nat} {f g : Nat → HP}
theorem Ent.emp_in : Ent R (emp :: R) := fun H s => by unfold emp; exact Sat.grp.mpr s
theorem Ent.emp_out : Ent (emp :: R) R := fun H s => by unfold emp at s; exact Sat.grp.mp s
theorem range_split (h : i < n) : List.range n = List.range i ++ i :: (List.range' (i + 1) (n - i - 1)) := by
  have e : n = i + (1 + (n - i - 1)) := by omega
  rw [List.range_eq_range', List.range_eq_range']
  conv => lhs; rw [e]
  rw [← List.range'_append (s := 0) (m := i) (n := 1 + (n - i - 1)) (step := 1)]
  congr 1
  rw [← List.range'_append (s := 0 + 1 * i) (m := 1) (n := n - i - 1) (step := 1)]
  simp [List.range']
theorem range'_gt {k s c : Nat} (h : k ∈ List.range' s c) : s ≤ k := by
  have := List.mem_range'.mp h
  obtain ⟨j, _, e⟩ := this
  omega
theorem eachR_open (h : i < n) : Ent (eachR n f :: R) (f i :: eachR n (hole f i) :: R) := by
  intro H s
  unfold eachR at s ⊢
  have s := Sat.grp.mp s
  rw [range_split h, List.map_append, List.map_cons, List.append_assoc] at s
  have s := s.perm (List.perm_middle (l₁ := (List.range i).map f) (l₂ := (List.range' (i + 1) (n - i - 1)).map f ++ R) (a := f i))
  refine (Ent.cons (p := f i) ?_) H s
  intro H s
  refine Sat.grp.mpr ?_
  rw [range_split h, List.map_append, List.map_cons, List.append_assoc]
  have e1 : (List.range i).map (hole f i) = (List.range i).map f := List.map_congr_left fun k hk => by
    unfold hole; rw [if_neg]; have := List.mem_range.mp hk; omega
  have e2 : (List.range' (i + 1) (n - i - 1)).map (hole f i) = (List.range' (i + 1) (n - i - 1)).map f := List.map_congr_left fun k hk => by
    unfold hole; rw [if_neg]; have := range'_gt hk; omega
  rw [e1, e2]
  refine Sat.perm List.perm_middle.symm ?_
  have e3 : hole f i i = emp := if_pos rfl
  rw [e3]
  exact Ent.emp_in H s
theorem eachR_close (h : i < n) (e : ∀ k, k < n → k ≠ i → g k = f k) : Ent (g i :: eachR n (hole f i) :: R) (eachR n g :: R) := by
  intro H s
  unfold eachR at s ⊢
  refine Sat.grp.mpr ?_
  have s := (Ent.cons (p := g i) (fun H s => Sat.grp.mp s)) H s
  rw [range_split h, List.map_append, List.map_cons, List.append_assoc] at s ⊢
  have e1 : (List.range i).map (hole f i) = (List.range i).map g := List.map_congr_left fun k hk => by
    have hk := List.mem_range.mp hk
    unfold hole; rw [if_neg (by omega), e k (by omega) (by omega)]
  have e2 : (List.range' (i + 1) (n - i - 1)).map (hole f i) = (List.range' (i + 1) (n - i - 1)).map g := List.map_congr_left fun k hk => by
    have h1 := range'_gt hk
    obtain ⟨j, hj, h2⟩ := List.mem_range'.mp hk
    unfold hole; rw [if_neg (by omega), e k (by omega) (by omega)]
  have e3 : hole f i i = emp := if_pos rfl
  rw [e1, e2, e3] at s
  refine Sat.perm List.perm_middle.symm ?_
  refine (Ent.cons (p := g i) ?_) H s
  intro H s
  exact Ent.emp_out H (s.perm List.perm_middle)
theorem eachR_congr (e : ∀ k, k < n → g k = f k) : Ent (eachR n f :: R) (eachR n g :: R) := by
  have e1 : (List.range n).map g = (List.range n).map f := List.map_congr_left fun k hk => e k (List.mem_range.mp hk)
  intro H s
  unfold eachR at s ⊢
  rw [e1]; exact s
theorem eachR_mono (e : ∀ k, k < n → Ent [f k] [g k]) : Ent (eachR n f :: R) (eachR n g :: R) := by
  intro H s
  unfold eachR at s ⊢
  have s := Sat.grp.mp s
  refine Sat.grp.mpr ?_
  have key : ∀ l : List Nat, (∀ k ∈ l, k < n) → Ent (l.map f ++ R) (l.map g ++ R) := by
    intro l
    induction l with
    | nil => intro _; exact Ent.rf
    | cons k l ih =>
      intro hl
      have h1 : Ent (f k :: (l.map f ++ R)) (g k :: (l.map f ++ R)) := Ent.left (R := l.map f ++ R) (e k (hl k (List.mem_cons_self ..)))
      exact h1.trans (Ent.cons (ih fun j hj => hl j (List.mem_cons_of_mem _ hj)))
  exact key _ (fun k hk => List.mem_range.mp hk) H s
theorem eachR_snoc (e : ∀ k, k < n → g k = f k) : Ent (g n :: eachR n f :: R) (eachR (n + 1) g :: R) := by
  intro H s
  have s := ((Ent.cons (p := g n) (eachR_congr (g := g) e)) H s)
  unfold eachR at s ⊢
  refine Sat.grp.mpr ?_
  have s := (Ent.cons (p := g n) (fun H s => Sat.grp.mp s)) H s
  rw [List.range_succ, List.map_append, List.map_cons, List.map_nil, List.append_assoc]
  exact Sat.perm List.perm_middle.symm s
theorem eachR_zero : Ent R (eachR 0 f :: R) := fun H s => by unfold eachR; exact Sat.grp.mpr s
/-- one part alone -/
theorem Ent.memP {c : HP} (m : c ∈ ps) : Ent ps [c] := by
  obtain ⟨l1, l2, rfl⟩ := List.append_of_mem m
  exact (Ent.perm List.perm_middle).trans (Ent.cons fun H _ => Sat.nil)
theorem eachR_at (m : eachR n f ∈ ps) (h : i < n) : Ent ps [f i] := (Ent.memP m).trans ((eachR_open h).trans (Ent.cons fun H _ => Sat.nil))
theorem getD_snoc_lt {α : Type} {xs : List α} {x d : α} {i : Nat} (h : i < xs.length) : (xs ++ [x]).getD i d = xs.getD i d := by
  rw [List.getD_eq_getElem?_getD, List.getD_eq_getElem?_getD, List.getElem?_append_left h]
theorem getD_snoc_eq {α : Type} {xs : List α} {x d : α} {i : Nat} (h : i = xs.length) : (xs ++ [x]).getD i d = x := by
  subst h
  rw [List.getD_eq_getElem?_getD, List.getElem?_append_right (Nat.le_refl _)]; simp
end
structure HI (K : PySem.W.Frag) where
  Boxes : CI K ["many", "numbers", "log"]
  Scan : CI K ["first", "many", "ahead", "row", "moved", "until", "view", "moment"]
  Memory : CI K ["ones", "puts", "cells", "gifts", "took"]
  One : CI K ["deed", "hand", "memory", "first", "many", "answer", "moment", "stamp", "giver", "nth"]
  Count : CI K ["deed", "hand", "memory", "first", "many", "answer", "moment", "stamp", "giver", "nth", "row"]
  Look : CI K ["deed", "hand", "memory", "first", "many", "answer", "moment", "stamp", "giver", "nth", "scan"]
  Change : CI K ["deed", "hand", "memory", "first", "many", "answer", "moment", "stamp", "giver", "nth", "scan"]
  Give : CI K ["deed", "hand", "memory", "first", "many", "answer", "moment", "stamp", "giver", "nth", "read"]
  Take : CI K ["deed", "hand", "memory", "first", "many", "answer", "moment", "stamp", "giver", "nth", "rows", "again"]
  Done : CI K ["work", "begin", "end"]
  Hall : CI K ["many", "plans", "boxes", "memories", "underway", "begins", "own", "hands", "lent", "ended"]
/-- a work, its answer's value told -/
@[irreducible] def workC {K : PySem.W.Frag} (I : HI K) (a dA mem : Addr) (many : Nat) (av : V) (w : WorkS) : HP := match w.x with
  | .one => oneC I.One a dA mem w.hand (thing w.deed * many) many av w.moment w.stamp w.giver w.nth
  | .count row => countC I.Count a dA mem w.hand (thing w.deed * many) many av w.moment w.stamp w.giver w.nth row
  | .look s => exh fun sc => grp [scanWC I.Look a dA mem w.hand (thing w.deed * many) many av w.moment w.stamp w.giver w.nth sc, scanC I.Scan sc (thing w.deed * many) many s]
  | .change s => exh fun sc => grp [scanWC I.Change a dA mem w.hand (thing w.deed * many) many av w.moment w.stamp w.giver w.nth sc, scanC I.Scan sc (thing w.deed * many) many s]
  | .give read => giveC I.Give a dA mem w.hand (thing w.deed * many) many av w.moment w.stamp w.giver w.nth read
  | .take rows again => takeC I.Take a dA mem w.hand (thing w.deed * many) many av w.moment w.stamp w.giver w.nth rows again
section
variable {K : PySem.W.Frag} {I : HI K} {a dA mem : Addr} {many : Nat} {av : V} {w : WorkS} {R ps : List HP}
def WC.C (I : HI K) : WC → Addr
  | .one => I.One.C | .count => I.Count.C | .look => I.Look.C | .change => I.Change.C | .give => I.Give.C | .take => I.Take.C
end
/-- what is read off a work that has ended -/
structure WorkR (K : PySem.W.Frag) (ps : List HP) (a dA : Addr) (av : V) (w : WorkS) : Prop where
  deed : RdF K ps a "deed" (.ref dA)
  hand : RdF K ps a "hand" (.int w.hand)
  answer : RdF K ps a "answer" av
  moment : RdF K ps a "moment" (.int w.moment)
  stamp : RdF K ps a "stamp" (.int w.stamp)
  giver : RdF K ps a "giver" (.int w.giver)
  nth : RdF K ps a "nth" (.int w.nth)
section
variable {K : PySem.W.Frag} {I : HI K} {a dA mem : Addr} {many : Nat} {av : V} {w : WorkS} {R ps ps' : List HP}
theorem RdF.ent {f : Str} {v : V} (e : Ent ps ps') (h : RdF K ps' a f v) : RdF K ps a f v := fun H s => h H (e H s)
theorem WorkR.ent (e : Ent ps ps') (h : WorkR K ps' a dA av w) : WorkR K ps a dA av w := ⟨h.deed.ent e, h.hand.ent e, h.answer.ent e, h.moment.ent e, h.stamp.ent e, h.giver.ent e, h.nth.ent e⟩
theorem workR : WorkR K [workC I a dA mem many av w] a dA av w := by
  obtain ⟨deed, hand, ans, moment, stamp, giver, nth, x⟩ := w
  unfold workC
  cases x with
  | one => dsimp only; exact ⟨rdf_oneC_deed (List.mem_cons_self ..) rfl, rdf_oneC_hand (List.mem_cons_self ..) rfl, rdf_oneC_answer (List.mem_cons_self ..) rfl, rdf_oneC_moment (List.mem_cons_self ..) rfl, rdf_oneC_stamp (List.mem_cons_self ..) rfl, rdf_oneC_giver (List.mem_cons_self ..) rfl, rdf_oneC_nth (List.mem_cons_self ..) rfl⟩
  | count row => dsimp only; exact ⟨rdf_countC_deed (List.mem_cons_self ..) rfl, rdf_countC_hand (List.mem_cons_self ..) rfl, rdf_countC_answer (List.mem_cons_self ..) rfl, rdf_countC_moment (List.mem_cons_self ..) rfl, rdf_countC_stamp (List.mem_cons_self ..) rfl, rdf_countC_giver (List.mem_cons_self ..) rfl, rdf_countC_nth (List.mem_cons_self ..) rfl⟩
  | give read => dsimp only; exact ⟨rdf_giveC_deed (List.mem_cons_self ..) rfl, rdf_giveC_hand (List.mem_cons_self ..) rfl, rdf_giveC_answer (List.mem_cons_self ..) rfl, rdf_giveC_moment (List.mem_cons_self ..) rfl, rdf_giveC_stamp (List.mem_cons_self ..) rfl, rdf_giveC_giver (List.mem_cons_self ..) rfl, rdf_giveC_nth (List.mem_cons_self ..) rfl⟩
  | take rows again => dsimp only; exact ⟨rdf_takeC_deed (List.mem_cons_self ..) rfl, rdf_takeC_hand (List.mem_cons_self ..) rfl, rdf_takeC_answer (List.mem_cons_self ..) rfl, rdf_takeC_moment (List.mem_cons_self ..) rfl, rdf_takeC_stamp (List.mem_cons_self ..) rfl, rdf_takeC_giver (List.mem_cons_self ..) rfl, rdf_takeC_nth (List.mem_cons_self ..) rfl⟩
  | look s =>
    dsimp only
    have k : ∀ {f : Str} {v : V}, (∀ sc R, RdF K (scanWC I.Look a dA mem hand (thing deed * many) many av moment stamp giver nth sc :: R) a f v) → RdF K [exh fun sc => grp [scanWC I.Look a dA mem hand (thing deed * many) many av moment stamp giver nth sc, scanC I.Scan sc (thing deed * many) many s]] a f v := fun h H z => let ⟨sc, z⟩ := Sat.ex.mp z; h sc _ H (Sat.grp.mp z)
    exact ⟨k fun _ _ => rdf_scanWC_deed (List.mem_cons_self ..) rfl, k fun _ _ => rdf_scanWC_hand (List.mem_cons_self ..) rfl, k fun _ _ => rdf_scanWC_answer (List.mem_cons_self ..) rfl, k fun _ _ => rdf_scanWC_moment (List.mem_cons_self ..) rfl, k fun _ _ => rdf_scanWC_stamp (List.mem_cons_self ..) rfl, k fun _ _ => rdf_scanWC_giver (List.mem_cons_self ..) rfl, k fun _ _ => rdf_scanWC_nth (List.mem_cons_self ..) rfl⟩
  | change s =>
    dsimp only
    have k : ∀ {f : Str} {v : V}, (∀ sc R, RdF K (scanWC I.Change a dA mem hand (thing deed * many) many av moment stamp giver nth sc :: R) a f v) → RdF K [exh fun sc => grp [scanWC I.Change a dA mem hand (thing deed * many) many av moment stamp giver nth sc, scanC I.Scan sc (thing deed * many) many s]] a f v := fun h H z => let ⟨sc, z⟩ := Sat.ex.mp z; h sc _ H (Sat.grp.mp z)
    exact ⟨k fun _ _ => rdf_scanWC_deed (List.mem_cons_self ..) rfl, k fun _ _ => rdf_scanWC_hand (List.mem_cons_self ..) rfl, k fun _ _ => rdf_scanWC_answer (List.mem_cons_self ..) rfl, k fun _ _ => rdf_scanWC_moment (List.mem_cons_self ..) rfl, k fun _ _ => rdf_scanWC_stamp (List.mem_cons_self ..) rfl, k fun _ _ => rdf_scanWC_giver (List.mem_cons_self ..) rfl, k fun _ _ => rdf_scanWC_nth (List.mem_cons_self ..) rfl⟩
end
/-- a pool of tuples -/
abbrev Pool := List (Addr × List V)
def DeedsIn (L : Pool) (das : List Addr) (ds : List Deed) : Prop := das.length = ds.length ∧ ∀ (i : Nat) (a : Addr) (d : Deed), das[i]? = some a → ds[i]? = some d → (a, d.vals) ∈ L
/-- lists of deeds, held by a list -/
@[irreducible] def plansC (L : Pool) (q : Addr) (plans : List (List Deed)) : HP :=
  exh fun z : { z : List Addr × List (List Addr) // z.1.length = plans.length ∧ z.2.length = plans.length ∧ ∀ h, h < plans.length → DeedsIn L (z.2.getD h []) (plans.getD h []) } =>
    grp [pt q (.lst (z.1.1.map V.ref)), eachR plans.length fun i => pt (z.1.1.getD i 0) (.lst ((z.1.2.getD i []).map V.ref))]
@[irreducible] def underC {K : PySem.W.Frag} (I : HI K) (L : Pool) (mem : Addr) (many : Nat) (v : V) : Option WorkS → HP
  | none => pur (v = .non)
  | some w => exh fun z : Addr × Addr × V => grp [pur (v = .ref z.1 ∧ (z.2.1, w.deed.vals) ∈ L), workC I z.1 z.2.1 mem many z.2.2 w, ansC z.2.2 w.ans]
@[irreducible] def doneC {K : PySem.W.Frag} (I : HI K) (L : Pool) (many : Nat) (ea : Addr) (d : DoneS) : HP :=
  exh fun z : Addr × Addr × Addr × V => grp [pur ((z.2.1, d.work.deed.vals) ∈ L ∧ AnsR L z.2.2.2 d.work.ans), obj I.Done ea [("work", .ref z.1), ("begin", .int d.b), ("end", .int d.e)], workC I z.1 z.2.1 z.2.2.1 many z.2.2.2 d.work]
def natsV (l : List Nat) : List V := l.map fun (n : Nat) => V.int n
/-- the list of what has ended -/
@[irreducible] def endedC {K : PySem.W.Frag} (I : HI K) (L : Pool) (many : Nat) (q : Addr) (es : List DoneS) : HP :=
  exh fun as : { as : List Addr // as.length = es.length } => grp [pt q (.lst (as.1.map V.ref)), eachR es.length fun i => doneC I L many (as.1.getD i 0) (es.getD i default)]
structure HAd (m : Nat) where
  plans : Addr
  boxes : Addr
  memories : Addr
  underway : Addr
  begins : Addr
  own : Addr
  hands : Addr
  lent : Addr
  ended : Addr
  ms : List Addr
  us : List V
  lm : ms.length = m
  lu : us.length = m
@[irreducible] def hallC {K : PySem.W.Frag} (I : HI K) (x : Addr) (L : Pool) (S : HallS) : HP :=
  exh fun z : HAd S.many => grp [obj I.Hall x [("many", .int S.many), ("plans", .ref z.plans), ("boxes", .ref z.boxes), ("memories", .ref z.memories), ("underway", .ref z.underway), ("begins", .ref z.begins), ("own", .ref z.own), ("hands", .ref z.hands), ("lent", .ref z.lent), ("ended", .ref z.ended)],
    plansC L z.plans S.plans,
    boxC I.Boxes z.boxes S.boxes S.log,
    pt z.memories (.lst (z.ms.map V.ref)),
    eachR S.many fun h => memC I.Memory (z.ms.getD h 0) (S.mems.getD h (.new S.many)),
    pt z.underway (.lst z.us),
    eachR S.many fun h => underC I L (z.ms.getD h 0) S.many (z.us.getD h .non) (S.underway.getD h none),
    pt z.begins (.lst (natsV S.begins)),
    pt z.own (.lst (natsV S.own)),
    pt z.hands (.lst (natsV S.hands)),
    pt z.lent (.dT (lentK S.lent)),
    endedC I L S.many z.ended S.ended]
end Sp
set_option Elab.async false
set_option linter.all false
set_option maxRecDepth 100000
set_option maxHeartbeats 4000000
namespace Sp
open PySem PySem.Spec PyProof.Rows L2 Mir
theorem mv_get (mv : List Nat) (k : Nat) : valV (mvK mv) (Sum.inl (k : Int)) = if k ∈ mv then some (.bl true) else none := by
  induction mv with
  | nil => rfl
  | cons j r ih =>
    have e : mvK (j :: r) = (Sum.inl (j : Int), V.bl true) :: mvK r := rfl
    rw [e]
    by_cases h : j = k
    · subst h
      rw [valV_pos rfl, if_pos (List.mem_cons_self ..)]
    · rw [valV_neg (fun z => h (by have := Sum.inl.inj z; omega)), ih]
      by_cases h2 : k ∈ r
      · rw [if_pos h2, if_pos (List.mem_cons_of_mem _ h2)]
      · rw [if_neg h2, if_neg (by rw [List.mem_cons]; rintro (z | z); exact h z.symm; exact h2 z)]
section
variable {K : PySem.W.Frag} {ps ps' R : List HP} {a b : Addr} {mv : List Nat} {l : Lent} {p k : Nat} {n v : Int}
theorem dinMv {Φ : Bool → List HP → Prop} (m : pt a (.dK (mvK mv)) ∈ ps) (q : Φ (decide (k ∈ mv)) ps) : DInG (.ref a) (.int (k : Int)) ps Φ := by
  refine ⟨a, _, rfl, dgetK (q := Sum.inl (k : Int)) m rfl, ?_⟩
  rw [mv_get]
  by_cases h : k ∈ mv
  · rw [if_pos h]; rw [decide_eq_true h] at q; exact q
  · rw [if_neg h]; rw [decide_eq_false h] at q; exact q
theorem rdl_nats {ns : List Nat} (h : RdL K ps a (natsV ns)) : RdL K ps a ((ns.map fun (n : Nat) => (n : Int)).map V.int) := by
  have e : (ns.map fun (n : Nat) => (n : Int)).map V.int = natsV ns := by simp [natsV, List.map_map, Function.comp_def]
  rw [e]; exact h
end
end Sp
namespace Sp
open PySem PySem.Spec PyProof.Rows L2 Mir
section
variable {K : PySem.W.Frag} {ps ps' R : List HP} {v : V} {l : List Int} {n : Nat} {a : Addr} {Φ : V → List HP → Prop}
theorem w2_eqNats {b : Addr} {ns : List Nat} (h : RdL K ps a (natsV ns)) (g : RdL K ps b []) (k : Φ (.bl (decide (ns = []))) ps) : W2 (rEqD K) (.ref a) (.ref b) ps Φ := by
  refine w2_eqNil (ns := ns.map fun (n : Nat) => (n : Int)) (rdl_nats h) g ?_
  have e : decide ((ns.map fun (n : Nat) => (n : Int)) = []) = decide (ns = []) := by
    cases ns <;> rfl
  rw [e]; exact k
end
end Sp
namespace Sp
end Sp
namespace Sp
open PySem PySem.Spec PyProof.Rows L2
theorem cutV_from (xs : List V) (k : Nat) : cutV xs (some (k : Int)) none = xs.drop k := by
  unfold cutV
  rw [HT.sIx_nat, HT.sIx_none]
  by_cases h : k ≤ xs.length
  · rw [Nat.min_eq_left h, List.take_of_length_le (by rw [List.length_drop]; exact Nat.le_refl _)]
  · rw [Nat.min_eq_right (by omega), List.drop_length, List.drop_eq_nil_of_le (by omega)]; simp
theorem cutV_to (xs : List V) (k : Nat) : cutV xs none (some (k : Int)) = xs.take k := by
  unfold cutV
  rw [HT.sIx_nat, HT.sIx_none, List.drop_zero, Nat.sub_zero]
  by_cases h : k ≤ xs.length
  · rw [Nat.min_eq_left h]
  · rw [Nat.min_eq_right (by omega), List.take_length, List.take_of_length_le (by omega)]
end Sp
namespace Sp
open PySem PySem.Spec PyProof.Rows L2
theorem pick_mapNil {a : Addr} {r : List HP} : Pick (pt a (.lst (([] : List Int).map V.int))) (pt a (.lst []) :: r) r := Pick.hd
theorem pick_nats {a : Addr} {r : List HP} : Pick (pt a (.lst (natsV []))) (pt a (.lst []) :: r) r := Pick.hd
end Sp
namespace Sp
open PySem PySem.Spec PyProof.Rows L2
end Sp
set_option Elab.async false
set_option linter.all false
set_option maxRecDepth 100000
set_option maxHeartbeats 4000000
namespace Sp
open PySem PySem.Spec PyProof.Rows L2 Mir
section
variable {K : PySem.W.Frag} {names : List Str} {I : CI K names} {a q1 q2 q3 q4 : Addr} {m : Nat} {R : List HP}
theorem ent_memNew : Ent (obj I a [("ones", .int 0), ("puts", .ref q1), ("cells", .ref q2), ("gifts", .ref q3), ("took", .ref q4)] :: pt q1 (.dK [(Sum.inr "set", .int 0), (Sum.inr "add", .int 0), (Sum.inr "raise", .int 0)]) :: pt q2 (.dK [(Sum.inr "set", .int 0), (Sum.inr "add", .int 0), (Sum.inr "raise", .int 0)]) :: pt q3 (.lst []) :: pt q4 (.lst ((List.replicate m 0).map V.int)) :: R) (memC I a (.new m) :: R) :=
  ent_memC (m := MemS.new m)
end
end Sp
namespace Sp
open Mir
end Sp
namespace Sp
open Mir
end Sp
namespace Sp
open PySem PySem.Spec PyProof.Rows L2 Mir
section
variable {K : PySem.W.Frag} {ps R : List HP} {Φ : V → List HP → Prop} {a b p : Addr} {x y : Int} {ns : List Int}
theorem w2_cat2I (h1 : pt a (.lst [.int x, .int y]) ∈ ps) (h2 : pt b (.lst (ns.map V.int)) ∈ ps) (l : ns.length ≤ 100000) (k : ∀ p, Φ (.ref p) (pt p (.lst ((x :: y :: ns).map V.int)) :: ps)) : W2 rCat (.ref a) (.ref b) ps Φ :=
  w2_cat h1 h2 (by rw [List.length_map]; exact Nat.le_trans (m := 1000000) (by simp; omega) (by decide)) fun p => k p
theorem w2_catI2 (h1 : pt a (.lst (ns.map V.int)) ∈ ps) (h2 : pt b (.lst [.int x, .int y]) ∈ ps) (l : ns.length ≤ 100000) (k : ∀ p, Φ (.ref p) (pt p (.lst ((ns ++ [x, y]).map V.int)) :: ps)) : W2 rCat (.ref a) (.ref b) ps Φ :=
  w2_cat h1 h2 (by rw [List.length_map]; exact Nat.le_trans (m := 1000000) (by simp; omega) (by decide)) fun p => by
    have e : ns.map V.int ++ [V.int x, V.int y] = (ns ++ [x, y]).map V.int := by rw [List.map_append]; rfl
    rw [e]; exact k p
end
end Sp
namespace Mir
open Sp
end Mir
namespace Sp
open PySem PySem.Spec PyProof.Rows L2 Mir
theorem w2_ixD {K : PySem.W.Frag} {w : World} {ps : List HP} {Φ : V → List HP → Prop} {a : Addr} {z : Str} {v : V} (h : KDct K w a z v) (k : Φ v ps) : W2 (rIxD K w) (.ref a) (.str z) ps Φ := fun H Q s q => ⟨a, z, v, rfl, rfl, h, q _ _ _ k s⟩
end Sp
set_option Elab.async false
set_option linter.all false
set_option maxRecDepth 100000
set_option maxHeartbeats 4000000
namespace Sp
open PySem PySem.Spec PyProof.Rows L2 Mir
section
variable {K : PySem.W.Frag} {I : HI K} {L L' : Pool} {R ps : List HP} {x q : Addr} {S : HallS} {many : Nat}
theorem rdf_obj {names : List Str} {J : CI K names} {a : Addr} {fs : List (Str × V)} {r : List Str} {f : Str} {v : V} (m : obj J a fs ∈ ps) (p : fs.map (·.1) ++ r = names) (h : (f, v) ∈ fs) : RdF K ps a f v := fun H s => s.rf m p h
theorem opn_hall : Opn (hallC I x L S :: R) fun z : HAd S.many => obj I.Hall x [("many", .int S.many), ("plans", .ref z.plans), ("boxes", .ref z.boxes), ("memories", .ref z.memories), ("underway", .ref z.underway), ("begins", .ref z.begins), ("own", .ref z.own), ("hands", .ref z.hands), ("lent", .ref z.lent), ("ended", .ref z.ended)] ::
    plansC L z.plans S.plans :: boxC I.Boxes z.boxes S.boxes S.log :: pt z.memories (.lst (z.ms.map V.ref)) :: eachR S.many (fun h => memC I.Memory (z.ms.getD h 0) (S.mems.getD h (.new S.many))) ::
    pt z.underway (.lst z.us) :: eachR S.many (fun h => underC I L (z.ms.getD h 0) S.many (z.us.getD h .non) (S.underway.getD h none)) ::
    pt z.begins (.lst (natsV S.begins)) :: pt z.own (.lst (natsV S.own)) :: pt z.hands (.lst (natsV S.hands)) :: pt z.lent (.dT (lentK S.lent)) :: endedC I L S.many z.ended S.ended :: R := fun H s => by
  unfold hallC at s
  obtain ⟨z, s⟩ := Sat.ex.mp s
  exact ⟨z, Sat.grp.mp s⟩
theorem ent_hall (z : HAd S.many) : Ent (obj I.Hall x [("many", .int S.many), ("plans", .ref z.plans), ("boxes", .ref z.boxes), ("memories", .ref z.memories), ("underway", .ref z.underway), ("begins", .ref z.begins), ("own", .ref z.own), ("hands", .ref z.hands), ("lent", .ref z.lent), ("ended", .ref z.ended)] ::
    plansC L z.plans S.plans :: boxC I.Boxes z.boxes S.boxes S.log :: pt z.memories (.lst (z.ms.map V.ref)) :: eachR S.many (fun h => memC I.Memory (z.ms.getD h 0) (S.mems.getD h (.new S.many))) ::
    pt z.underway (.lst z.us) :: eachR S.many (fun h => underC I L (z.ms.getD h 0) S.many (z.us.getD h .non) (S.underway.getD h none)) ::
    pt z.begins (.lst (natsV S.begins)) :: pt z.own (.lst (natsV S.own)) :: pt z.hands (.lst (natsV S.hands)) :: pt z.lent (.dT (lentK S.lent)) :: endedC I L S.many z.ended S.ended :: R) (hallC I x L S :: R) := fun H s => by
  unfold hallC
  exact Sat.ex.mpr ⟨z, Sat.grp.mpr s⟩
variable {mem wa dA : Addr} {v av : V} {w : WorkS}
theorem ent_underN : Ent R (underC I L mem many .non none :: R) := fun H s => by
  unfold underC
  exact Sat.pur.mpr ⟨rfl, s⟩
theorem under_mono (hL : ∀ x ∈ L, x ∈ L') {o : Option WorkS} : Ent [underC I L mem many v o] [underC I L' mem many v o] := fun H s => by
  unfold underC at s ⊢
  cases o with
  | none => exact s
  | some w =>
    obtain ⟨z, s⟩ := Sat.ex.mp s
    obtain ⟨⟨e, m⟩, s⟩ := Sat.pur.mp (Sat.grp.mp s)
    exact Sat.ex.mpr ⟨z, Sat.grp.mpr (Sat.pur.mpr ⟨⟨e, hL _ m⟩, s⟩)⟩
theorem done_mono (hL : ∀ x ∈ L, x ∈ L') {ea : Addr} {d : DoneS} : Ent [doneC I L many ea d] [doneC I L' many ea d] := fun H s => by
  unfold doneC at s ⊢
  obtain ⟨z, s⟩ := Sat.ex.mp s
  obtain ⟨⟨m, a⟩, s⟩ := Sat.pur.mp (Sat.grp.mp s)
  exact Sat.ex.mpr ⟨z, Sat.grp.mpr (Sat.pur.mpr ⟨⟨hL _ m, a.mono hL⟩, s⟩)⟩
theorem DeedsIn.mono {das : List Addr} {ds : List Deed} (h : DeedsIn L das ds) (hL : ∀ x ∈ L, x ∈ L') : DeedsIn L' das ds := ⟨h.1, fun i a d h1 h2 => hL _ (h.2 i a d h1 h2)⟩
theorem plans_mono (hL : ∀ x ∈ L, x ∈ L') {plans : List (List Deed)} : Ent (plansC L q plans :: R) (plansC L' q plans :: R) := fun H s => by
  unfold plansC at s ⊢
  obtain ⟨⟨z, h1, h2, h3⟩, s⟩ := Sat.ex.mp s
  exact Sat.ex.mpr ⟨⟨z, h1, h2, fun h hh => (h3 h hh).mono hL⟩, s⟩
theorem ended_mono (hL : ∀ x ∈ L, x ∈ L') {es : List DoneS} : Ent (endedC I L many q es :: R) (endedC I L' many q es :: R) := fun H s => by
  unfold endedC at s ⊢
  obtain ⟨as, s⟩ := Sat.ex.mp s
  have s := Sat.grp.mp s
  refine Sat.ex.mpr ⟨as, Sat.grp.mpr ?_⟩
  exact (Ent.cons (eachR_mono fun k _ => done_mono hL)) H s
theorem hall_mono (hL : ∀ x ∈ L, x ∈ L') : Ent (hallC I x L S :: R) (hallC I x L' S :: R) := fun H s => by
  obtain ⟨z, s⟩ := opn_hall H s
  refine ent_hall z H ?_
  refine (Ent.cons ((plans_mono hL).trans (Ent.cons (Ent.cons (Ent.cons (Ent.cons (Ent.cons ((eachR_mono fun k _ => under_mono hL).trans (Ent.cons (Ent.cons (Ent.cons (Ent.cons (Ent.cons (ended_mono hL)))))))))))))) H s
structure PlAd (L : Pool) (plans : List (List Deed)) where
  as : List Addr
  das : List (List Addr)
  la : as.length = plans.length
  ld : das.length = plans.length
  dd : ∀ h, h < plans.length → DeedsIn L (das.getD h []) (plans.getD h [])
theorem opn_plans {plans : List (List Deed)} : Opn (plansC L q plans :: R) fun z : PlAd L plans => pt q (.lst (z.as.map V.ref)) :: eachR plans.length (fun i => pt (z.as.getD i 0) (.lst ((z.das.getD i []).map V.ref))) :: R := fun H s => by
  unfold plansC at s
  obtain ⟨⟨z, h1, h2, h3⟩, s⟩ := Sat.ex.mp s
  exact ⟨⟨z.1, z.2, h1, h2, h3⟩, Sat.grp.mp s⟩
theorem ent_plans {plans : List (List Deed)} (z : PlAd L plans) : Ent (pt q (.lst (z.as.map V.ref)) :: eachR plans.length (fun i => pt (z.as.getD i 0) (.lst ((z.das.getD i []).map V.ref))) :: R) (plansC L q plans :: R) := fun H s => by
  unfold plansC
  exact Sat.ex.mpr ⟨⟨(z.as, z.das), z.la, z.ld, z.dd⟩, Sat.grp.mpr s⟩
theorem opn_ended {es : List DoneS} : Opn (endedC I L many q es :: R) fun z : { as : List Addr // as.length = es.length } => pt q (.lst (z.1.map V.ref)) :: eachR es.length (fun i => doneC I L many (z.1.getD i 0) (es.getD i default)) :: R := fun H s => by
  unfold endedC at s
  obtain ⟨z, s⟩ := Sat.ex.mp s
  exact ⟨z, Sat.grp.mp s⟩
theorem ent_ended {es : List DoneS} {as : List Addr} (e : as.length = es.length) : Ent (pt q (.lst (as.map V.ref)) :: eachR es.length (fun i => doneC I L many (as.getD i 0) (es.getD i default)) :: R) (endedC I L many q es :: R) := fun H s => by
  unfold endedC
  exact Sat.ex.mpr ⟨⟨as, e⟩, Sat.grp.mpr s⟩
theorem ent_done {d : DoneS} {ea : Addr} (h : (dA, d.work.deed.vals) ∈ L) (a : AnsR L av d.work.ans) : Ent (obj I.Done ea [("work", .ref wa), ("begin", .int d.b), ("end", .int d.e)] :: workC I wa dA mem many av d.work :: R) (doneC I L many ea d :: R) := fun H s => by
  unfold doneC
  exact Sat.ex.mpr ⟨(wa, dA, mem, av), Sat.grp.mpr (Sat.pur.mpr ⟨⟨h, a⟩, s⟩)⟩
end
end Sp
namespace Sp
open PySem PySem.Spec PyProof.Rows L2 Mir
section
variable {K : PySem.W.Frag} {ps R : List HP} {Φ : V → List HP → Prop} {a : Addr} {n i : Nat} {f g : Nat → HP}
theorem each_at (pk : Pick (eachR n f) ps R) (h : i < n) : Ent ps (f i :: eachR n (hole f i) :: R) := (Ent.perm pk.perm).trans (eachR_open h)
end
end Sp
set_option Elab.async false
set_option linter.all false
set_option maxRecDepth 100000
set_option maxHeartbeats 4000000
namespace Sp
open PySem PySem.Spec PyProof.Rows L2
end Sp
set_option Elab.async false
set_option linter.all false
set_option maxRecDepth 100000
set_option maxHeartbeats 4000000
namespace Sp
open PySem PySem.Spec PyProof.Rows L2 Mir
/-- plans copied, one by one -/
theorem wipe_set : ∀ {σ : L2.St} {j : Nat} {v : Option V}, wipe ((wipe σ [j]).set j v) [j] = wipe σ [j] := by
  intro σ j v
  simp [wipe]
end Sp
set_option Elab.async false
set_option linter.all false
set_option maxRecDepth 100000
set_option maxHeartbeats 4000000
namespace My
open PySem PySem.Spec PyProof.Rows L2 Sp
def topS (i : Nat) : Stmt := PySem.Challenge.pw_stillhands_k05_deeds_that_are_none.main.body.getD i (.Pass ⟨0, 0, 0, 0⟩)
abbrev s_need_deed : Stmt := topS 11
abbrev n_need_deed : List Str := ["deed", "hand"]
theorem sc_need_deed : FnScope n_need_deed ["deed", "hand"] (defScope s_need_deed) := ⟨rfl, rfl, rfl, by decide +kernel, rfl, by decide +kernel, by decide +kernel⟩
abbrev s_Boxes_init : Stmt := inClass (topS 13) 0
abbrev n_Boxes_init : List Str := ["self", "many"]
theorem sc_Boxes_init : FnScope n_Boxes_init ["self", "many"] (defScope s_Boxes_init) := ⟨rfl, rfl, rfl, by decide +kernel, rfl, by decide +kernel, by decide +kernel⟩
abbrev s_Boxes_need : Stmt := inClass (topS 13) 1
abbrev s_Boxes_take : Stmt := inClass (topS 13) 2
abbrev s_Boxes_put : Stmt := inClass (topS 13) 3
abbrev s_packed : Stmt := topS 16
abbrev s_parted : Stmt := topS 17
abbrev s_cell_of : Stmt := topS 19
abbrev s_Scan_init : Stmt := inClass (topS 20) 0
abbrev s_Scan_step : Stmt := inClass (topS 20) 1
abbrev s_Scan_looked : Stmt := inClass (topS 20) 2
abbrev s_Memory_init : Stmt := inClass (topS 22) 0
abbrev n_Memory_init : List Str := ["self", "many"]
theorem sc_Memory_init : FnScope n_Memory_init ["self", "many"] (defScope s_Memory_init) := ⟨rfl, rfl, rfl, by decide +kernel, rfl, by decide +kernel, by decide +kernel⟩
abbrev s_Work_init : Stmt := inClass (topS 23) 0
abbrev s_Work_step : Stmt := inClass (topS 23) 1
abbrev s_One_step : Stmt := inClass (topS 24) 0
abbrev s_Count_init : Stmt := inClass (topS 25) 0
abbrev s_Count_step : Stmt := inClass (topS 25) 1
abbrev s_Look_init : Stmt := inClass (topS 26) 0
abbrev s_Look_step : Stmt := inClass (topS 26) 1
abbrev s_Change_init : Stmt := inClass (topS 27) 0
abbrev s_Change_step : Stmt := inClass (topS 27) 1
abbrev s_Give_init : Stmt := inClass (topS 28) 0
abbrev s_Give_step : Stmt := inClass (topS 28) 1
abbrev s_Take_init : Stmt := inClass (topS 29) 0
abbrev s_Take_step : Stmt := inClass (topS 29) 1
abbrev s_Take_rank : Stmt := inClass (topS 29) 2
abbrev s_work_of : Stmt := topS 31
abbrev s_Done_init : Stmt := inClass (topS 36) 0
abbrev s_Hall_init : Stmt := inClass (topS 37) 0
abbrev n_Hall_init : List Str := ["self", "plans", "hand", "plan", "deed"]
theorem sc_Hall_init : FnScope n_Hall_init ["self", "plans"] (defScope s_Hall_init) := ⟨rfl, rfl, rfl, by decide +kernel, rfl, by decide +kernel, by decide +kernel⟩
abbrev s_Hall_need_hand : Stmt := inClass (topS 37) 1
abbrev s_Hall_step : Stmt := inClass (topS 37) 2
abbrev s_Hall_records : Stmt := inClass (topS 37) 5
abbrev n_Hall_records : List Str := ["self", "found", "one"]
theorem sc_Hall_records : FnScope n_Hall_records ["self"] (defScope s_Hall_records) := ⟨rfl, rfl, rfl, by decide +kernel, rfl, by decide +kernel, by decide +kernel⟩
abbrev s__law_cell : Stmt := topS 39
abbrev n__law_cell : List Str := ["_law_script", "_law_k"]
theorem sc__law_cell : FnScope n__law_cell ["_law_script", "_law_k"] (defScope s__law_cell) := ⟨rfl, rfl, rfl, by decide +kernel, rfl, by decide +kernel, by decide +kernel⟩
abbrev s__law_dice : Stmt := topS 40
abbrev n__law_dice : List Str := ["_law_script", "_law_k", "_law_cell_here"]
theorem sc__law_dice : FnScope n__law_dice ["_law_script", "_law_k"] (defScope s__law_dice) := ⟨rfl, rfl, rfl, by decide +kernel, rfl, by decide +kernel, by decide +kernel⟩
abbrev s__law_off : Stmt := topS 41
abbrev n__law_off : List Str := ["_law_d", "_law_most", "_law_more", "_law_found"]
theorem sc__law_off : FnScope n__law_off ["_law_d", "_law_most"] (defScope s__law_off) := ⟨rfl, rfl, rfl, by decide +kernel, rfl, by decide +kernel, by decide +kernel⟩
abbrev s__law_deed : Stmt := topS 42
abbrev n__law_deed : List Str := ["_law_d", "_law_word"]
theorem sc__law_deed : FnScope n__law_deed ["_law_d", "_law_word"] (defScope s__law_deed) := ⟨rfl, rfl, rfl, by decide +kernel, rfl, by decide +kernel, by decide +kernel⟩
abbrev s__law_plans : Stmt := topS 43
abbrev n__law_plans : List Str := ["_law_d", "_law_many", "_law_words", "_law_most", "_law_plans_here", "_law_hand", "_law_plan", "_law_k", "_law_word"]
theorem sc__law_plans : FnScope n__law_plans ["_law_d", "_law_many", "_law_words", "_law_most"] (defScope s__law_plans) := ⟨rfl, rfl, rfl, by decide +kernel, rfl, by decide +kernel, by decide +kernel⟩
abbrev s__law_refused : Stmt := topS 44
abbrev n__law_refused : List Str := ["_law_deed_here", "_law_hand", "e"]
theorem sc__law_refused : FnScope n__law_refused ["_law_deed_here", "_law_hand"] (defScope s__law_refused) := ⟨rfl, rfl, rfl, by decide +kernel, rfl, by decide +kernel, by decide +kernel⟩
abbrev s__law_no_hall : Stmt := topS 45
abbrev n__law_no_hall : List Str := ["_law_plans_here", "e"]
theorem sc__law_no_hall : FnScope n__law_no_hall ["_law_plans_here"] (defScope s__law_no_hall) := ⟨rfl, rfl, rfl, by decide +kernel, rfl, by decide +kernel, by decide +kernel⟩
abbrev s__law_odd : Stmt := topS 46
abbrev n__law_odd : List Str := ["_law_d", "_law_far", "_law_some"]
theorem sc__law_odd : FnScope n__law_odd ["_law_d"] (defScope s__law_odd) := ⟨rfl, rfl, rfl, by decide +kernel, rfl, by decide +kernel, by decide +kernel⟩
abbrev s_law : Stmt := topS 47
abbrev n_law : List Str := ["_law_script", "_law_d", "_law_words", "_law_hand", "_law_word", "_law_odd_here", "_law_plans_here", "_law_at", "_law_wrong", "_law_long", "_law_deed_here", "_law_plan"]
theorem sc_law : FnScope n_law ["_law_script"] (defScope s_law) := ⟨rfl, rfl, rfl, by decide +kernel, rfl, by decide +kernel, by decide +kernel⟩
abbrev n_Boxes : List Str := ["many", "numbers", "log"]
abbrev n_Scan : List Str := ["first", "many", "ahead", "row", "moved", "until", "view", "moment"]
abbrev n_Memory : List Str := ["ones", "puts", "cells", "gifts", "took"]
abbrev n_Work : List Str := ["deed", "hand", "memory", "first", "many", "answer", "moment", "stamp", "giver", "nth"]
abbrev n_One : List Str := ["deed", "hand", "memory", "first", "many", "answer", "moment", "stamp", "giver", "nth"]
abbrev n_Count : List Str := ["deed", "hand", "memory", "first", "many", "answer", "moment", "stamp", "giver", "nth", "row"]
abbrev n_Look : List Str := ["deed", "hand", "memory", "first", "many", "answer", "moment", "stamp", "giver", "nth", "scan"]
abbrev n_Change : List Str := ["deed", "hand", "memory", "first", "many", "answer", "moment", "stamp", "giver", "nth", "scan"]
abbrev n_Give : List Str := ["deed", "hand", "memory", "first", "many", "answer", "moment", "stamp", "giver", "nth", "read"]
abbrev n_Take : List Str := ["deed", "hand", "memory", "first", "many", "answer", "moment", "stamp", "giver", "nth", "rows", "again"]
abbrev n_Done : List Str := ["work", "begin", "end"]
abbrev n_Hall : List Str := ["many", "plans", "boxes", "memories", "underway", "begins", "own", "hands", "lent", "ended"]
structure Env (K : PySem.W.Frag) (mg : Str → Option Value) where
  i_Boxes : CI K n_Boxes
  i_Scan : CI K n_Scan
  i_Memory : CI K n_Memory
  i_Work : CI K n_Work
  i_One : CI K n_One
  i_Count : CI K n_Count
  i_Look : CI K n_Look
  i_Change : CI K n_Change
  i_Give : CI K n_Give
  i_Take : CI K n_Take
  i_Done : CI K n_Done
  i_Hall : CI K n_Hall
  f_need_deed : Addr
  fd_need_deed : FuncData
  F_need_deed : Fun K "need_deed" "need_deed" s_need_deed f_need_deed fd_need_deed
  b_need_deed : Binds K fd_need_deed ["deed", "hand"] []
  g_need_deed : mg "need_deed" = some (.ref f_need_deed)
  k_need_deed : PySem.W.keepIn K (.ref f_need_deed) = true
  f_Boxes_init : Addr
  fd_Boxes_init : FuncData
  F_Boxes_init : Fun K "__init__" "Boxes.__init__" s_Boxes_init f_Boxes_init fd_Boxes_init
  b_Boxes_init : Binds K fd_Boxes_init ["self", "many"] []
  f_Boxes_need : Addr
  fd_Boxes_need : FuncData
  F_Boxes_need : Fun K "need" "Boxes.need" s_Boxes_need f_Boxes_need fd_Boxes_need
  b_Boxes_need : Binds K fd_Boxes_need ["self", "place"] []
  f_Boxes_take : Addr
  fd_Boxes_take : FuncData
  F_Boxes_take : Fun K "take" "Boxes.take" s_Boxes_take f_Boxes_take fd_Boxes_take
  b_Boxes_take : Binds K fd_Boxes_take ["self", "place"] []
  f_Boxes_put : Addr
  fd_Boxes_put : FuncData
  F_Boxes_put : Fun K "put" "Boxes.put" s_Boxes_put f_Boxes_put fd_Boxes_put
  b_Boxes_put : Binds K fd_Boxes_put ["self", "place", "number"] []
  f_packed : Addr
  fd_packed : FuncData
  F_packed : Fun K "packed" "packed" s_packed f_packed fd_packed
  b_packed : Binds K fd_packed ["row"] []
  g_packed : mg "packed" = some (.ref f_packed)
  k_packed : PySem.W.keepIn K (.ref f_packed) = true
  f_parted : Addr
  fd_parted : FuncData
  F_parted : Fun K "parted" "parted" s_parted f_parted fd_parted
  b_parted : Binds K fd_parted ["number"] []
  g_parted : mg "parted" = some (.ref f_parted)
  k_parted : PySem.W.keepIn K (.ref f_parted) = true
  f_cell_of : Addr
  fd_cell_of : FuncData
  F_cell_of : Fun K "cell_of" "cell_of" s_cell_of f_cell_of fd_cell_of
  b_cell_of : Binds K fd_cell_of ["number"] []
  g_cell_of : mg "cell_of" = some (.ref f_cell_of)
  k_cell_of : PySem.W.keepIn K (.ref f_cell_of) = true
  f_Scan_init : Addr
  fd_Scan_init : FuncData
  F_Scan_init : Fun K "__init__" "Scan.__init__" s_Scan_init f_Scan_init fd_Scan_init
  b_Scan_init : Binds K fd_Scan_init ["self", "first", "many"] []
  f_Scan_step : Addr
  fd_Scan_step : FuncData
  F_Scan_step : Fun K "step" "Scan.step" s_Scan_step f_Scan_step fd_Scan_step
  b_Scan_step : Binds K fd_Scan_step ["self", "boxes", "clock", "lent"] []
  f_Scan_looked : Addr
  fd_Scan_looked : FuncData
  F_Scan_looked : Fun K "looked" "Scan.looked" s_Scan_looked f_Scan_looked fd_Scan_looked
  b_Scan_looked : Binds K fd_Scan_looked ["self", "lent"] []
  f_Memory_init : Addr
  fd_Memory_init : FuncData
  F_Memory_init : Fun K "__init__" "Memory.__init__" s_Memory_init f_Memory_init fd_Memory_init
  b_Memory_init : Binds K fd_Memory_init ["self", "many"] []
  f_Work_init : Addr
  fd_Work_init : FuncData
  F_Work_init : Fun K "__init__" "Work.__init__" s_Work_init f_Work_init fd_Work_init
  b_Work_init : Binds K fd_Work_init ["self", "deed", "hand", "memory", "first", "many"] []
  f_Work_step : Addr
  fd_Work_step : FuncData
  F_Work_step : Fun K "step" "Work.step" s_Work_step f_Work_step fd_Work_step
  b_Work_step : Binds K fd_Work_step ["self", "boxes", "clock", "lent"] []
  f_One_step : Addr
  fd_One_step : FuncData
  F_One_step : Fun K "step" "One.step" s_One_step f_One_step fd_One_step
  b_One_step : Binds K fd_One_step ["self", "boxes", "clock", "lent"] []
  f_Count_init : Addr
  fd_Count_init : FuncData
  F_Count_init : Fun K "__init__" "Count.__init__" s_Count_init f_Count_init fd_Count_init
  b_Count_init : Binds K fd_Count_init ["self", "deed", "hand", "memory", "first", "many"] []
  f_Count_step : Addr
  fd_Count_step : FuncData
  F_Count_step : Fun K "step" "Count.step" s_Count_step f_Count_step fd_Count_step
  b_Count_step : Binds K fd_Count_step ["self", "boxes", "clock", "lent"] []
  f_Look_init : Addr
  fd_Look_init : FuncData
  F_Look_init : Fun K "__init__" "Look.__init__" s_Look_init f_Look_init fd_Look_init
  b_Look_init : Binds K fd_Look_init ["self", "deed", "hand", "memory", "first", "many"] []
  f_Look_step : Addr
  fd_Look_step : FuncData
  F_Look_step : Fun K "step" "Look.step" s_Look_step f_Look_step fd_Look_step
  b_Look_step : Binds K fd_Look_step ["self", "boxes", "clock", "lent"] []
  f_Change_init : Addr
  fd_Change_init : FuncData
  F_Change_init : Fun K "__init__" "Change.__init__" s_Change_init f_Change_init fd_Change_init
  b_Change_init : Binds K fd_Change_init ["self", "deed", "hand", "memory", "first", "many"] []
  f_Change_step : Addr
  fd_Change_step : FuncData
  F_Change_step : Fun K "step" "Change.step" s_Change_step f_Change_step fd_Change_step
  b_Change_step : Binds K fd_Change_step ["self", "boxes", "clock", "lent"] []
  f_Give_init : Addr
  fd_Give_init : FuncData
  F_Give_init : Fun K "__init__" "Give.__init__" s_Give_init f_Give_init fd_Give_init
  b_Give_init : Binds K fd_Give_init ["self", "deed", "hand", "memory", "first", "many"] []
  f_Give_step : Addr
  fd_Give_step : FuncData
  F_Give_step : Fun K "step" "Give.step" s_Give_step f_Give_step fd_Give_step
  b_Give_step : Binds K fd_Give_step ["self", "boxes", "clock", "lent"] []
  f_Take_init : Addr
  fd_Take_init : FuncData
  F_Take_init : Fun K "__init__" "Take.__init__" s_Take_init f_Take_init fd_Take_init
  b_Take_init : Binds K fd_Take_init ["self", "deed", "hand", "memory", "first", "many"] []
  f_Take_step : Addr
  fd_Take_step : FuncData
  F_Take_step : Fun K "step" "Take.step" s_Take_step f_Take_step fd_Take_step
  b_Take_step : Binds K fd_Take_step ["self", "boxes", "clock", "lent"] []
  f_Take_rank : Addr
  fd_Take_rank : FuncData
  F_Take_rank : Fun K "rank" "Take.rank" s_Take_rank f_Take_rank fd_Take_rank
  b_Take_rank : Binds K fd_Take_rank ["self", "k"] []
  f_work_of : Addr
  fd_work_of : FuncData
  F_work_of : Fun K "work_of" "work_of" s_work_of f_work_of fd_work_of
  b_work_of : Binds K fd_work_of ["deed", "hand", "memory", "many"] []
  g_work_of : mg "work_of" = some (.ref f_work_of)
  k_work_of : PySem.W.keepIn K (.ref f_work_of) = true
  f_Done_init : Addr
  fd_Done_init : FuncData
  F_Done_init : Fun K "__init__" "Done.__init__" s_Done_init f_Done_init fd_Done_init
  b_Done_init : Binds K fd_Done_init ["self", "work", "begin", "end"] []
  f_Hall_init : Addr
  fd_Hall_init : FuncData
  F_Hall_init : Fun K "__init__" "Hall.__init__" s_Hall_init f_Hall_init fd_Hall_init
  b_Hall_init : Binds K fd_Hall_init ["self", "plans"] []
  f_Hall_need_hand : Addr
  fd_Hall_need_hand : FuncData
  F_Hall_need_hand : Fun K "need_hand" "Hall.need_hand" s_Hall_need_hand f_Hall_need_hand fd_Hall_need_hand
  b_Hall_need_hand : Binds K fd_Hall_need_hand ["self", "hand"] []
  f_Hall_step : Addr
  fd_Hall_step : FuncData
  F_Hall_step : Fun K "step" "Hall.step" s_Hall_step f_Hall_step fd_Hall_step
  b_Hall_step : Binds K fd_Hall_step ["self", "hand"] []
  f_Hall_records : Addr
  fd_Hall_records : FuncData
  F_Hall_records : Fun K "records" "Hall.records" s_Hall_records f_Hall_records fd_Hall_records
  b_Hall_records : Binds K fd_Hall_records ["self"] []
  f__law_cell : Addr
  fd__law_cell : FuncData
  F__law_cell : Fun K "_law_cell" "_law_cell" s__law_cell f__law_cell fd__law_cell
  b__law_cell : Binds K fd__law_cell ["_law_script", "_law_k"] []
  g__law_cell : mg "_law_cell" = some (.ref f__law_cell)
  k__law_cell : PySem.W.keepIn K (.ref f__law_cell) = true
  f__law_dice : Addr
  fd__law_dice : FuncData
  F__law_dice : Fun K "_law_dice" "_law_dice" s__law_dice f__law_dice fd__law_dice
  b__law_dice : Binds K fd__law_dice ["_law_script", "_law_k"] []
  g__law_dice : mg "_law_dice" = some (.ref f__law_dice)
  k__law_dice : PySem.W.keepIn K (.ref f__law_dice) = true
  f__law_off : Addr
  fd__law_off : FuncData
  F__law_off : Fun K "_law_off" "_law_off" s__law_off f__law_off fd__law_off
  b__law_off : Binds K fd__law_off ["_law_d", "_law_most"] []
  g__law_off : mg "_law_off" = some (.ref f__law_off)
  k__law_off : PySem.W.keepIn K (.ref f__law_off) = true
  f__law_deed : Addr
  fd__law_deed : FuncData
  F__law_deed : Fun K "_law_deed" "_law_deed" s__law_deed f__law_deed fd__law_deed
  b__law_deed : Binds K fd__law_deed ["_law_d", "_law_word"] []
  g__law_deed : mg "_law_deed" = some (.ref f__law_deed)
  k__law_deed : PySem.W.keepIn K (.ref f__law_deed) = true
  f__law_plans : Addr
  fd__law_plans : FuncData
  F__law_plans : Fun K "_law_plans" "_law_plans" s__law_plans f__law_plans fd__law_plans
  b__law_plans : Binds K fd__law_plans ["_law_d", "_law_many", "_law_words", "_law_most"] []
  g__law_plans : mg "_law_plans" = some (.ref f__law_plans)
  k__law_plans : PySem.W.keepIn K (.ref f__law_plans) = true
  f__law_refused : Addr
  fd__law_refused : FuncData
  F__law_refused : Fun K "_law_refused" "_law_refused" s__law_refused f__law_refused fd__law_refused
  b__law_refused : Binds K fd__law_refused ["_law_deed_here", "_law_hand"] []
  g__law_refused : mg "_law_refused" = some (.ref f__law_refused)
  k__law_refused : PySem.W.keepIn K (.ref f__law_refused) = true
  f__law_no_hall : Addr
  fd__law_no_hall : FuncData
  F__law_no_hall : Fun K "_law_no_hall" "_law_no_hall" s__law_no_hall f__law_no_hall fd__law_no_hall
  b__law_no_hall : Binds K fd__law_no_hall ["_law_plans_here"] []
  g__law_no_hall : mg "_law_no_hall" = some (.ref f__law_no_hall)
  k__law_no_hall : PySem.W.keepIn K (.ref f__law_no_hall) = true
  f__law_odd : Addr
  fd__law_odd : FuncData
  F__law_odd : Fun K "_law_odd" "_law_odd" s__law_odd f__law_odd fd__law_odd
  b__law_odd : Binds K fd__law_odd ["_law_d"] []
  g__law_odd : mg "_law_odd" = some (.ref f__law_odd)
  k__law_odd : PySem.W.keepIn K (.ref f__law_odd) = true
  f_law : Addr
  fd_law : FuncData
  F_law : Fun K "law" "law" s_law f_law fd_law
  b_law : Binds K fd_law ["_law_script"] []
  g_law : mg "law" = some (.ref f_law)
  k_law : PySem.W.keepIn K (.ref f_law) = true
  g_Boxes : mg "Boxes" = some (.ref i_Boxes.C)
  mk_Boxes : Mk K i_Boxes.C f_Boxes_init
  m_Boxes_need : Meth K i_Boxes.C "need" f_Boxes_need
  m_Boxes_take : Meth K i_Boxes.C "take" f_Boxes_take
  m_Boxes_put : Meth K i_Boxes.C "put" f_Boxes_put
  g_Scan : mg "Scan" = some (.ref i_Scan.C)
  mk_Scan : Mk K i_Scan.C f_Scan_init
  m_Scan_step : Meth K i_Scan.C "step" f_Scan_step
  m_Scan_looked : Meth K i_Scan.C "looked" f_Scan_looked
  g_Memory : mg "Memory" = some (.ref i_Memory.C)
  mk_Memory : Mk K i_Memory.C f_Memory_init
  g_Work : mg "Work" = some (.ref i_Work.C)
  mk_Work : Mk K i_Work.C f_Work_init
  m_Work_step : Meth K i_Work.C "step" f_Work_step
  g_One : mg "One" = some (.ref i_One.C)
  mk_One : Mk K i_One.C f_Work_init
  m_One_step : Meth K i_One.C "step" f_One_step
  g_Count : mg "Count" = some (.ref i_Count.C)
  mk_Count : Mk K i_Count.C f_Count_init
  m_Count_step : Meth K i_Count.C "step" f_Count_step
  g_Look : mg "Look" = some (.ref i_Look.C)
  mk_Look : Mk K i_Look.C f_Look_init
  m_Look_step : Meth K i_Look.C "step" f_Look_step
  g_Change : mg "Change" = some (.ref i_Change.C)
  mk_Change : Mk K i_Change.C f_Change_init
  m_Change_step : Meth K i_Change.C "step" f_Change_step
  g_Give : mg "Give" = some (.ref i_Give.C)
  mk_Give : Mk K i_Give.C f_Give_init
  m_Give_step : Meth K i_Give.C "step" f_Give_step
  g_Take : mg "Take" = some (.ref i_Take.C)
  mk_Take : Mk K i_Take.C f_Take_init
  m_Take_step : Meth K i_Take.C "step" f_Take_step
  m_Take_rank : Meth K i_Take.C "rank" f_Take_rank
  g_Done : mg "Done" = some (.ref i_Done.C)
  mk_Done : Mk K i_Done.C f_Done_init
  g_Hall : mg "Hall" = some (.ref i_Hall.C)
  mk_Hall : Mk K i_Hall.C f_Hall_init
  m_Hall_need_hand : Meth K i_Hall.C "need_hand" f_Hall_need_hand
  m_Hall_step : Meth K i_Hall.C "step" f_Hall_step
  m_Hall_records : Meth K i_Hall.C "records" f_Hall_records
  bm_Take_rank : BMeth K i_Take.C "rank" f_Take_rank
  cr_Work : ClX.CRead K i_Work.C (.type "type")
  cf_Work_init : PySem.W.findCls K (.ref i_Work.C) (.type "type") "__init__" = some (.val (.ref f_Work_init))
  kk_Work_init : PySem.W.keepIn K (.ref f_Work_init) = true
  e_HandsError : Addr
  g_HandsError : mg "HandsError" = some (.ref e_HandsError)
  k_HandsError : PySem.W.keepIn K (.ref e_HandsError) = true
  x_HandsError : PySem.W.excIn K e_HandsError [.type "ValueError", .type "Exception", .type "BaseException", .type "object"] "ValueError.__new__" = true
  xb_HandsError : PySem.W.subIn K (.ref e_HandsError) (.type "BaseException") = some true
  xt_HandsError : PySem.W.typeIn K (.ref e_HandsError) = some (.type "type")
  e_NoNumber : Addr
  g_NoNumber : mg "NoNumber" = some (.ref e_NoNumber)
  k_NoNumber : PySem.W.keepIn K (.ref e_NoNumber) = true
  x_NoNumber : PySem.W.excIn K e_NoNumber [.type "ValueError", .type "Exception", .type "BaseException", .type "object"] "ValueError.__new__" = true
  xb_NoNumber : PySem.W.subIn K (.ref e_NoNumber) (.type "BaseException") = some true
  xt_NoNumber : PySem.W.typeIn K (.ref e_NoNumber) = some (.type "type")
  e_NoBox : Addr
  g_NoBox : mg "NoBox" = some (.ref e_NoBox)
  k_NoBox : PySem.W.keepIn K (.ref e_NoBox) = true
  x_NoBox : PySem.W.excIn K e_NoBox [.type "ValueError", .type "Exception", .type "BaseException", .type "object"] "ValueError.__new__" = true
  xb_NoBox : PySem.W.subIn K (.ref e_NoBox) (.type "BaseException") = some true
  xt_NoBox : PySem.W.typeIn K (.ref e_NoBox) = some (.type "type")
  e_NoHand : Addr
  g_NoHand : mg "NoHand" = some (.ref e_NoHand)
  k_NoHand : PySem.W.keepIn K (.ref e_NoHand) = true
  x_NoHand : PySem.W.excIn K e_NoHand [.type "ValueError", .type "Exception", .type "BaseException", .type "object"] "ValueError.__new__" = true
  xb_NoHand : PySem.W.subIn K (.ref e_NoHand) (.type "BaseException") = some true
  xt_NoHand : PySem.W.typeIn K (.ref e_NoHand) = some (.type "type")
  e_NoDeed : Addr
  g_NoDeed : mg "NoDeed" = some (.ref e_NoDeed)
  k_NoDeed : PySem.W.keepIn K (.ref e_NoDeed) = true
  x_NoDeed : PySem.W.excIn K e_NoDeed [.type "ValueError", .type "Exception", .type "BaseException", .type "object"] "ValueError.__new__" = true
  xb_NoDeed : PySem.W.subIn K (.ref e_NoDeed) (.type "BaseException") = some true
  xt_NoDeed : PySem.W.typeIn K (.ref e_NoDeed) = some (.type "type")
  ec_NoNumber : ExcC K e_NoNumber
  ex_NoNumber : PySem.W.exmOne K (.ref e_NoNumber) (.ref e_HandsError) = some true
  kv_NoNumber : PySem.W.kitOne K (.ref e_NoNumber) (.type "ValueError") = some true
  kt_NoNumber_NoNumber : PySem.W.kitOne K (.ref e_NoNumber) (.ref e_NoNumber) = some true
  kt_NoNumber_NoBox : PySem.W.kitOne K (.ref e_NoNumber) (.ref e_NoBox) = some false
  kt_NoNumber_NoHand : PySem.W.kitOne K (.ref e_NoNumber) (.ref e_NoHand) = some false
  kt_NoNumber_NoDeed : PySem.W.kitOne K (.ref e_NoNumber) (.ref e_NoDeed) = some false
  ec_NoBox : ExcC K e_NoBox
  ex_NoBox : PySem.W.exmOne K (.ref e_NoBox) (.ref e_HandsError) = some true
  kv_NoBox : PySem.W.kitOne K (.ref e_NoBox) (.type "ValueError") = some true
  kt_NoBox_NoNumber : PySem.W.kitOne K (.ref e_NoBox) (.ref e_NoNumber) = some false
  kt_NoBox_NoBox : PySem.W.kitOne K (.ref e_NoBox) (.ref e_NoBox) = some true
  kt_NoBox_NoHand : PySem.W.kitOne K (.ref e_NoBox) (.ref e_NoHand) = some false
  kt_NoBox_NoDeed : PySem.W.kitOne K (.ref e_NoBox) (.ref e_NoDeed) = some false
  ec_NoHand : ExcC K e_NoHand
  ex_NoHand : PySem.W.exmOne K (.ref e_NoHand) (.ref e_HandsError) = some true
  kv_NoHand : PySem.W.kitOne K (.ref e_NoHand) (.type "ValueError") = some true
  kt_NoHand_NoNumber : PySem.W.kitOne K (.ref e_NoHand) (.ref e_NoNumber) = some false
  kt_NoHand_NoBox : PySem.W.kitOne K (.ref e_NoHand) (.ref e_NoBox) = some false
  kt_NoHand_NoHand : PySem.W.kitOne K (.ref e_NoHand) (.ref e_NoHand) = some true
  kt_NoHand_NoDeed : PySem.W.kitOne K (.ref e_NoHand) (.ref e_NoDeed) = some false
  exs_NoDeed : PySem.W.exmOne K (.ref e_NoDeed) (.ref e_NoDeed) = some true
  kh_NoDeed : PySem.W.kitOne K (.ref e_NoDeed) (.ref e_HandsError) = some true
  ec_NoDeed : ExcC K e_NoDeed
  ex_NoDeed : PySem.W.exmOne K (.ref e_NoDeed) (.ref e_HandsError) = some true
  kv_NoDeed : PySem.W.kitOne K (.ref e_NoDeed) (.type "ValueError") = some true
  kt_NoDeed_NoNumber : PySem.W.kitOne K (.ref e_NoDeed) (.ref e_NoNumber) = some false
  kt_NoDeed_NoBox : PySem.W.kitOne K (.ref e_NoDeed) (.ref e_NoBox) = some false
  kt_NoDeed_NoHand : PySem.W.kitOne K (.ref e_NoDeed) (.ref e_NoHand) = some false
  kt_NoDeed_NoDeed : PySem.W.kitOne K (.ref e_NoDeed) (.ref e_NoDeed) = some true
  gt_MOST_NUMBER : Tok
  g_MOST_NUMBER : mg "MOST_NUMBER" = some (.int 999 gt_MOST_NUMBER)
  a_WITH_NUMBER : Addr
  g_WITH_NUMBER : mg "WITH_NUMBER" = some (.ref a_WITH_NUMBER)
  t_WITH_NUMBER : ∀ H, SqT K H a_WITH_NUMBER [.str "set", .str "add", .str "raise", .str "give"]
  a_ALONE : Addr
  g_ALONE : mg "ALONE" = some (.ref a_ALONE)
  t_ALONE : ∀ H, SqT K H a_ALONE [.str "one", .str "count", .str "look", .str "sum", .str "top", .str "take"]
  gt_BASE : Tok
  g_BASE : mg "BASE" = some (.int 1000000 gt_BASE)
  ww : World
  a_PLACES : Addr
  g_PLACES : mg "PLACES" = some (.ref a_PLACES)
  d_PLACES_one : KDct K ww a_PLACES "one" (.int 0)
  d_PLACES_count : KDct K ww a_PLACES "count" (.int 0)
  d_PLACES_set : KDct K ww a_PLACES "set" (.int 1)
  d_PLACES_look : KDct K ww a_PLACES "look" (.int 1)
  d_PLACES_add : KDct K ww a_PLACES "add" (.int 2)
  d_PLACES_sum : KDct K ww a_PLACES "sum" (.int 2)
  d_PLACES_raise : KDct K ww a_PLACES "raise" (.int 3)
  d_PLACES_top : KDct K ww a_PLACES "top" (.int 3)
  d_PLACES_give : KDct K ww a_PLACES "give" (.int 4)
  d_PLACES_take : KDct K ww a_PLACES "take" (.int 4)
  gt_MOST_HANDS : Tok
  g_MOST_HANDS : mg "MOST_HANDS" = some (.int 4 gt_MOST_HANDS)
  gt_MOST_DEEDS : Tok
  g_MOST_DEEDS : mg "MOST_DEEDS" = some (.int 40 gt_MOST_DEEDS)
  gt_THINGS : Tok
  g_THINGS : mg "THINGS" = some (.int 5 gt_THINGS)
  bn_len : mg "len" = none
  bn_abs : mg "abs" = none
  bn_sum : mg "sum" = none
  bn_max : mg "max" = none
  bn_min : mg "min" = none
  bn_int : mg "int" = none
  bn_isinstance : mg "isinstance" = none
  bn_list : mg "list" = none
  bn_tuple : mg "tuple" = none
  bn_range : mg "range" = none
  bn_reversed : mg "reversed" = none
  bn_enumerate : mg "enumerate" = none
  bn_ValueError : mg "ValueError" = none
local macro_rules | `(tactic| ktf_call "mem") => `(tactic| first | with_reducible assumption | with_reducible exact List.mem_cons_self | ((with_reducible refine' List.mem_cons_of_mem _ ?w9); (case w9 => ktf_call "mem")))
local macro_rules | `(tactic| ktf_call "pick") => `(tactic| first | with_reducible exact Pick.hd | with_reducible exact pick_mapNil | with_reducible exact pick_nats | ((with_reducible refine' Pick.tl ?w9); (case w9 => ktf_call "pick")))
local macro_rules | `(tactic| ktf_call "picks") => `(tactic| first | with_reducible exact Picks.nil | (with_reducible refine' Picks.cons ?w1 ?w2; (case w1 => ktf_call "pick"); (case w2 => ktf_call "picks")))
local macro_rules | `(tactic| ktf_call "rep") => `(tactic| first | with_reducible exact Rep.hd | ((with_reducible refine' Rep.tl ?w9); (case w9 => ktf_call "rep")))
local macro_rules | `(tactic| ktf_call "fput") => `(tactic| first | with_reducible exact FPut.hd | with_reducible exact FPut.new | ((with_reducible refine' FPut.tl ?w9); (case w9 => ktf_call "fput")))
local macro_rules | `(tactic| ktf_call "rdl") => `(tactic| first | with_reducible assumption | ((with_reducible refine' rdl_pt ?w9); (case w9 => ktf_call "mem")) | ((with_reducible refine' rdl_scr ?w9); (case w9 => ktf_call "mem")) | ((with_reducible refine' RdL.cons ?w9); (case w9 => ktf_call "rdl")))
local macro_rules | `(tactic| ktf_call "rdt") => `(tactic| first | with_reducible assumption | ((with_reducible refine' rdt_tups ?w8 ?w9); (case w9 => with_reducible assumption); (case w8 => ktf_call "mem")) | ((with_reducible refine' rdt_pt ?w9); (case w9 => ktf_call "mem")) | ((with_reducible refine' RdT.cons ?w9); (case w9 => ktf_call "rdt")))
local macro_rules | `(tactic| ktf_call "lens") => `(tactic| first | omega | (simp only [List.length_map, List.length_append, List.length_cons, List.length_nil, List.length_set, List.length_replicate, List.length_reverse, List.length_tail]; omega) | ((simp only [List.length_map, List.length_append, List.length_cons, List.length_nil, List.length_set, List.length_replicate, List.length_reverse, List.length_tail] at *); omega))
local macro_rules | `(tactic| ktf_call "len") => `(tactic| first | assumption | ((with_reducible refine' Nat.lt_of_le_of_lt (m := 1000000) ?_ (by decide)); ktf_call "lens") | ((with_reducible refine' Nat.le_trans (m := 1000000) ?_ (by decide)); ktf_call "lens"))
local macro_rules | `(tactic| ktf_call "drops") => `(tactic| first | with_reducible exact Drops.refl | ((with_reducible refine' Drops.tl ?w9); (case w9 => ktf_call "drops")))
local macro_rules | `(tactic| ktf_call "keep") => `(tactic| first | with_reducible exact Keep.rest Drops.refl | with_reducible exact Keep.nil | (with_reducible refine' Keep.cons ?w1 ?w2; (case w1 => ktf_call "pick"); (case w2 => ktf_call "keep")) | (with_reducible refine' Keep.rest ?w1; (case w1 => ktf_call "drops")) | ktf_call "fold")
local macro_rules | `(tactic| ktf_call "fold") => `(tactic| first | ((with_reducible refine' Keep.fold ent_scanC ?w1); (case w1 => ktf_call "keep")) | ((with_reducible refine' Keep.fold ent_memC ?w1); (case w1 => ktf_call "keep")) | ((with_reducible refine' Keep.fold ent_oneC ?w1); (case w1 => ktf_call "keep")) | ((with_reducible refine' Keep.fold ent_countC ?w1); (case w1 => ktf_call "keep")) | ((with_reducible refine' Keep.fold ent_scanWC ?w1); (case w1 => ktf_call "keep")) | ((with_reducible refine' Keep.fold ent_giveC ?w1); (case w1 => ktf_call "keep")) | ((with_reducible refine' Keep.fold ent_takeC ?w1); (case w1 => ktf_call "keep")) | ((with_reducible refine' Keep.fold optN ?w1); (case w1 => ktf_call "keep")) | ((with_reducible refine' Keep.fold optL ?w1); (case w1 => ktf_call "keep")) | ((with_reducible refine' Keep.fold Ent.dice ?w1); (case w1 => ktf_call "keep")) | ((with_reducible refine' Keep.fold Ent.plainC ?w1); (case w1 => ktf_call "keep")) | ((with_reducible refine' Keep.fold Ent.dictC ?w1); (case w1 => ktf_call "keep")) | ((with_reducible refine' Keep.fold ansN ?w1); (case w1 => ktf_call "keep")) | ((with_reducible refine' Keep.fold ansI ?w1); (case w1 => ktf_call "keep")) | ((with_reducible refine' Keep.fold ansT ?w1); (case w1 => ktf_call "keep")))
local macro_rules | `(tactic| ktf_call "ent") => `(tactic| (refine Ent.keep ?_; ktf_call "keep"))
local macro_rules | `(tactic| ktf_call "kput") => `(tactic| first | with_reducible exact KPut.hd | ((with_reducible refine' KPut.tl ?w9); (case w9 => ktf_call "kput")))
local macro_rules | `(tactic| ktf_call "kvs") => `(tactic| first | with_reducible exact KVs.nil | ((with_reducible refine' KVs.str ?w9); (case w9 => ktf_call "kvs")) | ((with_reducible refine' KVs.int ?w9); (case w9 => ktf_call "kvs")))
local macro_rules | `(tactic| ktf_call "typ") => `(tactic| first | with_reducible assumption | with_reducible exact TyP.non | with_reducible exact TyP.int _ | with_reducible exact TyP.bl _ | with_reducible exact TyP.str _ | ((with_reducible refine' TyP.lst ?w9); (case w9 => ktf_call "mem")) | ((with_reducible refine' TyP.tup ?w9); (case w9 => ktf_call "mem")))
local macro_rules | `(tactic| ktf_call "rdd") => `(tactic| first | with_reducible assumption | with_reducible exact rdd_int | with_reducible exact rdd_non | with_reducible exact rdd_bl | (refine' rdd_nil ?w9; (case w9 => ktf_call "rdl")) | (refine' rdd_ints ?w9; (case w9 => ktf_call "rdl")))
local macro_rules | `(tactic| ktf_call "efact") => `(tactic| with_reducible assumption)
local macro_rules | `(tactic| ktf_call "step") => `(tactic| first
  | with_reducible refine ws_seq ?_
  | with_reducible refine ws_asg ?_
  | with_reducible refine wg_nil ?_
  | with_reducible refine wg_one ?_
  | with_reducible refine wg_name ?_
  | ((with_reducible refine' we_var ?w1 ?wd); (case w1 => exact rfl))
  | with_reducible refine we_c ?_
  | (with_reducible refine we_fld ?_)
  | ((with_reducible refine' fldG ?w1 ?w2 ?w3 ?wd); (case w1 => ktf_call "mem"); (case w2 => exact rfl); (case w3 => ktf_call "mem"))
  | with_reducible refine ws_fld ?_
  | ((with_reducible refine' fldS ?w1 ?w2 ?w3 ?w4 ?wd); (case w1 => ktf_call "mem"); (case w2 => ktf_call "fput"); (case w3 => exact rfl); (case w4 => ktf_call "rep"))
  | with_reducible refine we_op ?_
  | with_reducible refine w2_I0 ?_
  | ((with_reducible refine' w2_eq ?w1 ?wd); (case w1 => exact rfl))
  | ((with_reducible refine' w2_ne ?w1 ?wd); (case w1 => exact rfl))
  | ((with_reducible refine' w2_I ?wc ?wd); (case wc => first | omega | exact cmul_if | exact cmul_if2 | exact Or.inr (And.intro (by omega) (by omega)) | exact Or.inl (And.intro (by omega) (by omega)) | exact Or.inr ⟨by decide, by decide⟩ | exact Or.inl ⟨by decide, by decide⟩ | exact And.intro (by decide) (by decide) | (show (0 : Int) < _; omega) | exact ⟨by decide, by decide, by decide⟩))
  | ((with_reducible refine' w2_ixL ?w1 ?w2 ?wd); (case w1 => ktf_call "rdl"); (case w2 => exact rfl))
  | ((with_reducible refine' w2_ixT ?w1 ?w2 ?wd); (case w1 => ktf_call "rdt"); (case w2 => exact rfl))
  | ((with_reducible refine' wst_Lz ?w1 ?w2 ?w3 ?wd); (case w1 => ktf_call "rep"); (case w2 => first | decide | omega); (case w3 => first | omega | ((simp only [List.length_cons, List.length_nil, List.length_set]); decide)))
  | with_reducible refine wt_test ?_
  | with_reducible refine wt_B ?_
  | with_reducible refine boolG ?_
  | with_reducible refine wt_not ?_
  | with_reducible refine wt_and ?_
  | with_reducible refine wt_or ?_
  | with_reducible refine wt_yes ?_
  | with_reducible refine we_chain ?_
  | with_reducible refine chainG ?_
  | with_reducible refine we_andV ?_
  | with_reducible refine we_orV ?_
  | with_reducible refine andG ?_
  | with_reducible refine orG ?_
  | with_reducible refine we_notV ?_
  | with_reducible refine we_eqN ?_
  | with_reducible refine we_neN ?_
  | with_reducible refine ws_if ?_
  | with_reducible refine iteT ?_
  | with_reducible refine iteF ?_
  | with_reducible refine iteNT ?_
  | with_reducible refine iteNF ?_
  | with_reducible refine ws_next ?_
  | with_reducible refine ws_ret ?_
  | with_reducible refine ws_retN ?_
  | with_reducible refine ws_drop ?_
  | with_reducible refine ws_break ?_
  | with_reducible refine ws_cont ?_
  | with_reducible refine wa_nil ?_
  | with_reducible refine wa_cons ?_
  | (with_reducible refine we_lst ?_)
  | (with_reducible refine we_tup ?_)
  | ((with_reducible refine' newG ?w1 fun _ => ?wd); (case w1 => ktf_call "len"))
  | with_reducible refine we_dnewK fun _ => ?_
  | with_reducible refine we_dnewT fun _ => ?_
  | with_reducible refine we_CB ?_
  | with_reducible refine we_BM ?_
  | with_reducible refine we_BM0 ?_
  | ((with_reducible refine' tyL ?w1 ?wd); (case w1 => ktf_call "rdl"))
  | ((with_reducible refine' wm_append ?w1 ?w2 ?wd); (case w1 => ktf_call "rep"); (case w2 => ktf_call "len"))
  | ((with_reducible refine' wc_lenL ?w1 ?wd); (case w1 => ktf_call "rdl"))
  | ((with_reducible refine' wc_lenT ?w1 ?wd); (case w1 => ktf_call "rdt"))
  | with_reducible refine wc_abs ?_
  | with_reducible refine wc_max2 ?_
  | with_reducible refine wc_min2 ?_
  | with_reducible refine wc_int ?_
  | with_reducible refine wc_intB ?_
  | with_reducible refine we_un ?_
  | with_reducible refine w1_U ?_
  | with_reducible refine we_sl ?_
  | with_reducible refine wo_none ?_
  | with_reducible refine wo_some ?_
  | with_reducible refine intG ?_
  | with_reducible refine we_dget ?_
  | with_reducible refine we_din ?_
  | with_reducible refine we_dnotin ?_
  | with_reducible refine ws_dput ?_
  | with_reducible refine wg_sub ?_
  | with_reducible refine we_call ?_
  | with_reducible refine we_callX (by assumption) ?_
  | with_reducible refine we_meth ?_
  | with_reducible refine we_methX (by assumption) ?_
  | ((with_reducible refine' methG ?w1 ?w2 ?w3 ?wd); (case w1 => ktf_call "mem"); (case w2 => exact rfl); (case w3 => decide +kernel))
  | ((with_reducible refine' methPlain ?w1 ?w2 ?w3 ?wd); (case w1 => ktf_call "mem"); (case w2 => exact rfl); (case w3 => decide +kernel))
  | with_reducible refine we_make ?_
  | with_reducible refine we_makeX (by assumption) ?_
  | ((with_reducible refine wipG ?w1 ?wd); (case w1 => exact rfl))
  | ((with_reducible refine' accG ?w1 ?w2 ?wd); (case w1 => ktf_call "rep"); (case w2 => ktf_call "len"))
  | ((with_reducible refine' wc_isi ?w1 ?w2 ?wd); (case w1 => ktf_call "typ"); (case w2 => first | (show _ = some false; decide +kernel) | (show _ = some true; decide +kernel)))
  | ((with_reducible refine' wc_listL ?w1 fun _ => ?wd); (case w1 => ktf_call "rdl"))
  | ((with_reducible refine' w2_eqD ?w1 ?w2 ?wd); (case w1 => ktf_call "rdd"); (case w2 => ktf_call "rdd"))
  | ((with_reducible refine' w2_neD ?w1 ?w2 ?wd); (case w1 => ktf_call "rdd"); (case w2 => ktf_call "rdd"))
  | with_reducible refine we_clsfn ?_
  | with_reducible refine clsG ?_
  | with_reducible refine we_callS (by assumption) ?_
  | with_reducible refine we_methS (by assumption) ?_
  | with_reducible refine we_makeS (by assumption) ?_
  | ((with_reducible refine' wc_isE ?w1 ?wd); (case w1 => ktf_call "efact"))
  | ((with_reducible refine' wc_isEV ?w1 ?wd); (case w1 => ktf_call "efact"))
  | ((with_reducible refine' wc_isET3 ?w0 ?w1 ?w2 ?w3 ?wd); (case w0 => ktf_call "mem"); (case w1 => ktf_call "efact"); (case w2 => ktf_call "efact"); (case w3 => ktf_call "efact"))
  | with_reducible refine we_dispG fun _ => ?_
  | with_reducible refine wp_nil ?_
  | with_reducible refine wp_cons ?_
  | ((with_reducible refine' dispG ?w1 ?w2 ?w3 ?w4 ?wd); (case w1 => ktf_call "kvs"); (case w2 => (simp only [List.map_cons, List.map_nil]); decide +kernel); (case w3 => first | decide | ((simp only [List.length_cons, List.length_nil]); first | done | decide)); (case w4 => ktf_call "rep"))
  | ((with_reducible refine' dgetS ?w1 ?w2 ?w3 ?wd); (case w1 => ktf_call "mem"); (case w2 => (simp only [List.map_cons, List.map_nil]); decide +kernel); (case w3 => ktf_call "mem"))
  | ((with_reducible refine' dputS ?w1 ?w2 ?w3 ?w4 ?w5 ?wd); (case w3 => ktf_call "mem"); (case w2 => ktf_call "kput"); (case w4 => ktf_call "rep"); (case w1 => (simp only [List.map_cons, List.map_nil]); decide +kernel); (case w5 => ktf_call "len"))
  | ((with_reducible refine' w2_inL ?w1 ?w2 ?w3 ?wd); (case w1 => ktf_call "rdl"); (case w2 => exact rfl); (case w3 => exact rfl))
  | ((with_reducible refine' w2_inT ?w1 ?w2 ?w3 ?wd); (case w1 => ktf_call "rdt"); (case w2 => exact rfl); (case w3 => exact rfl))
  | ((with_reducible refine' w2_ninL ?w1 ?w2 ?w3 ?wd); (case w1 => ktf_call "rdl"); (case w2 => exact rfl); (case w3 => exact rfl))
  | ((with_reducible refine' w2_ninT ?w1 ?w2 ?w3 ?wd); (case w1 => ktf_call "rdt"); (case w2 => exact rfl); (case w3 => exact rfl))
  | with_reducible refine wgs_cons ?_
  | ((with_reducible refine iteTe ?w1 ?wd); (case w1 => decide +kernel))
  | ((with_reducible refine iteFe ?w1 ?wd); (case w1 => decide +kernel))
  | ((with_reducible refine iteFd ?w1 ?wd); (case w1 => (intro z; cases z; done)))
  | ((with_reducible refine iteTd ?w1 ?wd); (case w1 => with_reducible first | assumption | exact rfl))
  | ((with_reducible refine iteNFd ?w1 ?wd); (case w1 => (intro z; cases z; done)))
  | ((with_reducible refine iteNTd ?w1 ?wd); (case w1 => with_reducible first | assumption | exact rfl))
  | ((with_reducible refine iteFd ?w1 ?wd); (case w1 => with_reducible assumption))
  | ((with_reducible refine iteNFd ?w1 ?wd); (case w1 => with_reducible assumption))
  | with_reducible refine wgs_nil ?_)
local macro_rules | `(tactic| ktf_call "step") => `(tactic| first
  | ((with_reducible refine' w2_ixI ?w1 ?w2 ?wd); (case w1 => ktf_call "rdl"); (case w2 => ktf_call "lens"))
  | with_reducible refine w2_eqI ?_
  | with_reducible refine w2_neI ?_
  | with_reducible refine w2_eqDI ?_
  | with_reducible refine w2_neDI ?_
  | ((with_reducible refine' wg_tup ?w1 ?w2 ?wd); (case w1 => ktf_call "rdt"); (case w2 => exact rfl))
  | ((with_reducible refine' w2_neL ?w1 ?w2 ?wd); (case w1 => ktf_call "rdl"); (case w2 => ktf_call "rdl"))
  | ((with_reducible refine' w2_eqL ?w1 ?w2 ?wd); (case w1 => ktf_call "rdl"); (case w2 => ktf_call "rdl"))
  | with_reducible refine we_lstRg ?_
  | ((with_reducible refine lrgG ?w1 fun _ => ?wd); (case w1 => ktf_call "lens"))
  | ((with_reducible refine' wc_sorted ?w1 fun _ _ _ _ => ?wd); (case w1 => ktf_call "rdl"))
  | ((with_reducible refine' w2_neA ?w1 ?w2 ?wd); (case w1 => first | with_reducible assumption | ((with_reducible refine' rdd_ansC ?w9); (case w9 => ktf_call "mem")) | ((with_reducible refine' rdd_ansR ?w9 ?w8); (case w9 => ktf_call "mem"); (case w8 => with_reducible assumption))); (case w2 => first | with_reducible assumption | ((with_reducible refine' rdd_ansC ?w9); (case w9 => ktf_call "mem")) | ((with_reducible refine' rdd_ansR ?w9 ?w8); (case w9 => ktf_call "mem"); (case w8 => with_reducible assumption))))
  | ((with_reducible refine' w2_catIs ?w1 ?w2 ?w3 fun _ => ?wd); (case w1 => ktf_call "mem"); (case w2 => ktf_call "mem"); (case w3 => ktf_call "lens"))
  | ((with_reducible refine' w2_catsI ?w1 ?w2 ?w3 fun _ => ?wd); (case w1 => ktf_call "mem"); (case w2 => ktf_call "mem"); (case w3 => ktf_call "lens"))
  | ((with_reducible refine' w2_catI ?w1 ?w2 ?w3 fun _ => ?wd); (case w1 => ktf_call "mem"); (case w2 => ktf_call "mem"); (case w3 => ktf_call "lens"))
  | ((with_reducible refine' wsl_tail ?w1 fun _ => ?wd); (case w1 => ktf_call "rdl"))
  | with_reducible refine we_lstRev ?_
  | ((with_reducible refine' revG ?w1 fun _ => ?wd); (case w1 => ktf_call "rdl"))
  | ((with_reducible refine' wst_LI ?w1 ?w2 ?wd); (case w1 => ktf_call "rep"); (case w2 => ktf_call "lens"))
  | ((with_reducible refine' wm_appendI ?w1 ?w2 ?wd); (case w1 => ktf_call "rep"); (case w2 => ktf_call "len"))
  | ((with_reducible refine' wm_pop0I ?w1 ?wd); (case w1 => ktf_call "rep"))
  | ((with_reducible refine' w2_repI ?w1 ?w2 fun _ => ?wd); (case w1 => ktf_call "mem"); (case w2 => omega))
  | ((with_reducible refine' w2_eqNil ?w1 ?w2 ?wd); (case w1 => ktf_call "rdl"); (case w2 => ktf_call "rdl"))
  | ((with_reducible refine' w2_neNil ?w1 ?w2 ?wd); (case w1 => ktf_call "rdl"); (case w2 => ktf_call "rdl"))
  | ((with_reducible refine' wc_topI ?w1 ?w2 ?wd); (case w1 => ktf_call "rdl"); (case w2 => omega))
  | ((with_reducible refine' wc_sum ?w1 ?wd); (case w1 => ktf_call "rdl"))
  | ((with_reducible refine' wc_tupL ?w1 fun _ => ?wd); (case w1 => ktf_call "rdl")))
local macro_rules | `(tactic| ktf_call "go") => `(tactic| repeat (ktf_call "step"))
section
def pk : List Int → Int
  | [] => 1
  | x :: r => x + 1000000 * pk r
def Small (row : List Int) : Prop := ∀ x ∈ row, 0 ≤ x ∧ x < 1000000
theorem Small.tail {x : Int} {r : List Int} (h : Small (x :: r)) : Small r := fun y m => h y (List.mem_cons_of_mem _ m)
section
variable {P : Program} {w : World} {K : PySem.W.Frag} {mg : Str → Option Value} {base : Heap}
def S_binit (E : Env K mg) : SP := fun vs ps Φ => ∃ (x : Addr) (m : Int) (R : List HP), vs = [.ref x, .int m] ∧ ps = obj E.i_Boxes x [] :: R ∧ (0 ≤ m ∧ m ≤ 1000) ∧ Φ .non (boxC E.i_Boxes x (List.replicate m.toNat 0) [] :: R)
def S_bneed (E : Env K mg) : SP := fun vs ps Φ => ∃ (x : Addr) (i : Int) (ns : List Int) (log : List Touch) (R : List HP), vs = [.ref x, .int i] ∧ Pick (boxC E.i_Boxes x ns log) ps R ∧ (0 ≤ i ∧ i < (ns.length : Int)) ∧ Φ .non (boxC E.i_Boxes x ns log :: R)
def S_btake (E : Env K mg) : SP := fun vs ps Φ => ∃ (x : Addr) (i : Int) (ns : List Int) (log : List Touch) (R : List HP), vs = [.ref x, .int i] ∧ Pick (boxC E.i_Boxes x ns log) ps R ∧ (0 ≤ i ∧ i < (ns.length : Int)) ∧ log.length ≤ 900000 ∧ Φ (.int (ns.getD i.toNat 0)) (boxC E.i_Boxes x ns (log ++ [⟨true, i, ns.getD i.toNat 0⟩]) :: R)
def S_bput (E : Env K mg) : SP := fun vs ps Φ => ∃ (x : Addr) (i n : Int) (ns : List Int) (log : List Touch) (R : List HP), vs = [.ref x, .int i, .int n] ∧ Pick (boxC E.i_Boxes x ns log) ps R ∧ (0 ≤ i ∧ i < (ns.length : Int)) ∧ log.length ≤ 900000 ∧ Φ .non (boxC E.i_Boxes x (ns.set i.toNat n) (log ++ [⟨false, i, n⟩]) :: R)
theorem z_binit {E : Env K mg} {R : List HP} {Φ : V → List HP → Prop} {x : Addr} {m : Int} (h : 0 ≤ m ∧ m ≤ 1000) (k : Φ .non (boxC E.i_Boxes x (List.replicate m.toNat 0) [] :: R)) : S_binit E [.ref x, .int m] (obj E.i_Boxes x [] :: R) Φ := ⟨x, m, R, rfl, rfl, h, k⟩
section
variable {E : Env K mg} {ps R : List HP} {Φ : V → List HP → Prop} {Ψ : Value → List HP → Prop} {x : Addr} {i n : Int} {ns : List Int} {log : List Touch}
theorem z_bneed (pk : Pick (boxC E.i_Boxes x ns log) ps R) (h : 0 ≤ i ∧ i < (ns.length : Int)) (k : Φ .non (boxC E.i_Boxes x ns log :: R)) : S_bneed E [.ref x, .int i] ps Φ := ⟨x, i, ns, log, R, rfl, pk, h, k⟩
theorem z_btake (pk : Pick (boxC E.i_Boxes x ns log) ps R) (h : 0 ≤ i ∧ i < (ns.length : Int)) (hl : log.length ≤ 900000) (k : Φ (.int (ns.getD i.toNat 0)) (boxC E.i_Boxes x ns (log ++ [⟨true, i, ns.getD i.toNat 0⟩]) :: R)) : S_btake E [.ref x, .int i] ps Φ := ⟨x, i, ns, log, R, rfl, pk, h, hl, k⟩
theorem z_bput (pk : Pick (boxC E.i_Boxes x ns log) ps R) (h : 0 ≤ i ∧ i < (ns.length : Int)) (hl : log.length ≤ 900000) (k : Φ .non (boxC E.i_Boxes x (ns.set i.toNat n) (log ++ [⟨false, i, n⟩]) :: R)) : S_bput E [.ref x, .int i, .int n] ps Φ := ⟨x, i, n, ns, log, R, rfl, pk, h, hl, k⟩
end
end
local macro_rules | `(tactic| ktf_call "step") => `(tactic| first
  | ((with_reducible refine' methBox ?w1 ?w2 ?w3 ?wd); (case w1 => ktf_call "mem"); (case w2 => exact rfl); (case w3 => decide +kernel))
  | ((with_reducible refine' fldG_box ?w1 fun _ _ _ _ => ?wd); (case w1 => ktf_call "pick"))
  | ((with_reducible refine' fldS_box ?w1 fun _ _ _ _ => ?wd); (case w1 => ktf_call "pick"))
  | ((with_reducible refine' z_bneed ?w1 ?w2 ?wd); (case w1 => ktf_call "pick"); (case w2 => first | assumption | ktf_call "lens")))
section
variable {P : Program} {w : World} {K : PySem.W.Frag} {mg : Str → Option Value} {base : Heap}
def Bx (p : Prop) : Prop := p
theorem Bx.out {p : Prop} (h : Bx p) : p := h
theorem Bx.tr {p : Prop} (h : p) : Bx p = True := eq_true h
theorem ok_Boxes_init (E : Env K mg) : FnOk P w K mg base CX0 1 E.f_Boxes_init E.fd_Boxes_init ["self", "many"] (spS (S_binit E)) := by
  refine Bx.out ?_
  simp (disch := with_unfolding_all
      refine okS E.F_Boxes_init sc_Boxes_init (fun vs ps Φ h => ?_) (fun cdv A outer s H E0 hr => ?_)
      · obtain ⟨x, m, R, rfl, _⟩ := h; rfl
      · refine ⟨_, ((pss_cons (ps_fld (pv 0) (pv 1) rfl)
     (pss_cons (ps_fld (pv 0) (pe_op op_rep (pe_lst (pa_cons pe_int pa_nil)) (pv 1)) rfl)
     (pss_one (ps_fld (pv 0) (pe_lst pa_nil) rfl))))), fun vs ps Φ h => ?_⟩
        obtain ⟨x, m, R, rfl, rfl, hm, k⟩ := h
        try dsimp only [cxOf]
        show Ws _ _ _ _ _ [_, _] _
        ktf_call "go"
        rename_i _ q1 q2
        refine OutP.mk' ?_ k
        exact Ent.trans (by ktf_call "ent") (Ent.box0 (q1 := q1) (q2 := q2) (m := m) (by simp; omega))) only [↓Bx.tr]
end
end
section
local macro_rules | `(tactic| ktf_call "step") => `(tactic| first
  | ((with_reducible refine' methBox ?w1 ?w2 ?w3 ?wd); (case w1 => ktf_call "mem"); (case w2 => exact rfl); (case w3 => decide +kernel))
  | ((with_reducible refine' fldG_box ?w1 fun _ _ _ _ => ?wd); (case w1 => ktf_call "pick"))
  | ((with_reducible refine' fldS_box ?w1 fun _ _ _ _ => ?wd); (case w1 => ktf_call "pick"))
  | ((with_reducible refine' z_bneed ?w1 ?w2 ?wd); (case w1 => ktf_call "pick"); (case w2 => first | assumption | ktf_call "lens")))
local macro_rules | `(tactic| ktf_call "step") => `(tactic| first
  | ((with_reducible refine' meth_scanC ?w1 ?w2 ?w3 ?wd); (case w1 => ktf_call "mem"); (case w2 => exact rfl); (case w3 => decide +kernel))
  | ((with_reducible refine' fldG_scanC ?w1 fun _ _ _ _ => ?wd); (case w1 => ktf_call "pick"))
  | ((with_reducible refine' fldG_memC ?w1 fun _ _ _ _ => ?wd); (case w1 => ktf_call "pick"))
  | ((with_reducible refine' fldS_scanC ?w1 fun _ _ _ _ => ?wd); (case w1 => ktf_call "pick"))
  | ((with_reducible refine' fldS_memC ?w1 fun _ _ _ _ => ?wd); (case w1 => ktf_call "pick"))
  | ((with_reducible refine' z_btake ?w1 ?w2 ?w3 ?wd); (case w1 => ktf_call "pick"); (case w2 => first | assumption | ktf_call "lens"); (case w3 => first | assumption | ktf_call "lens"))
  | ((with_reducible refine' z_bput ?w1 ?w2 ?w3 ?wd); (case w1 => ktf_call "pick"); (case w2 => first | assumption | ktf_call "lens"); (case w3 => first | assumption | ktf_call "lens"))
  | ((with_reducible refine' dinMv ?w1 ?wd); (case w1 => ktf_call "mem"))
  | ((with_reducible refine' rdl_nats ?w1); (case w1 => ktf_call "rdl"))
  | ((with_reducible refine' w2_eqNats ?w1 ?w2 ?wd); (case w1 => ktf_call "rdl"); (case w2 => ktf_call "rdl")))
section
variable {P : Program} {w : World} {K : PySem.W.Frag} {mg : Str → Option Value} {base : Heap}
abbrev hiE (E : Env K mg) : HI K := ⟨E.i_Boxes, E.i_Scan, E.i_Memory, E.i_One, E.i_Count, E.i_Look, E.i_Change, E.i_Give, E.i_Take, E.i_Done, E.i_Hall⟩
def S_cellof : SP := fun vs ps Φ => ∃ n : Int, vs = [.int n] ∧ (n = 0 ∨ 2 ≤ (Mir.un n).length) ∧ (Mir.un n).length ≤ 1000 ∧ Φ (.int (Mir.cellOf n)) ps
theorem z_cellof {ps : List HP} {Φ : V → List HP → Prop} {n : Int} (h : n = 0 ∨ 2 ≤ (Mir.un n).length) (l : (Mir.un n).length ≤ 1000) (k : Φ (.int (Mir.cellOf n)) ps) : S_cellof [.int n] ps Φ := ⟨n, rfl, h, l, k⟩
def S_scaninit (E : Env K mg) : SP := fun vs ps Φ => ∃ (x : Addr) (first many : Nat) (R : List HP), vs = [.ref x, .int first, .int many] ∧ ps = obj E.i_Scan x [] :: R ∧ Φ .non (scanC E.i_Scan x first many .new :: R)
theorem z_scaninit {E : Env K mg} {R : List HP} {Φ : V → List HP → Prop} {x : Addr} {first many : Nat} (k : Φ .non (scanC E.i_Scan x first many .new :: R)) : S_scaninit E [.ref x, .int first, .int many] (obj E.i_Scan x [] :: R) Φ := ⟨x, first, many, R, rfl, rfl, k⟩
end
end
section
local macro_rules | `(tactic| ktf_call "step") => `(tactic| first
  | ((with_reducible refine' methBox ?w1 ?w2 ?w3 ?wd); (case w1 => ktf_call "mem"); (case w2 => exact rfl); (case w3 => decide +kernel))
  | ((with_reducible refine' fldG_box ?w1 fun _ _ _ _ => ?wd); (case w1 => ktf_call "pick"))
  | ((with_reducible refine' fldS_box ?w1 fun _ _ _ _ => ?wd); (case w1 => ktf_call "pick"))
  | ((with_reducible refine' z_bneed ?w1 ?w2 ?wd); (case w1 => ktf_call "pick"); (case w2 => first | assumption | ktf_call "lens")))
local macro_rules | `(tactic| ktf_call "step") => `(tactic| first
  | ((with_reducible refine' meth_scanC ?w1 ?w2 ?w3 ?wd); (case w1 => ktf_call "mem"); (case w2 => exact rfl); (case w3 => decide +kernel))
  | ((with_reducible refine' fldG_scanC ?w1 fun _ _ _ _ => ?wd); (case w1 => ktf_call "pick"))
  | ((with_reducible refine' fldG_memC ?w1 fun _ _ _ _ => ?wd); (case w1 => ktf_call "pick"))
  | ((with_reducible refine' fldS_scanC ?w1 fun _ _ _ _ => ?wd); (case w1 => ktf_call "pick"))
  | ((with_reducible refine' fldS_memC ?w1 fun _ _ _ _ => ?wd); (case w1 => ktf_call "pick"))
  | ((with_reducible refine' z_btake ?w1 ?w2 ?w3 ?wd); (case w1 => ktf_call "pick"); (case w2 => first | assumption | ktf_call "lens"); (case w3 => first | assumption | ktf_call "lens"))
  | ((with_reducible refine' z_bput ?w1 ?w2 ?w3 ?wd); (case w1 => ktf_call "pick"); (case w2 => first | assumption | ktf_call "lens"); (case w3 => first | assumption | ktf_call "lens"))
  | ((with_reducible refine' dinMv ?w1 ?wd); (case w1 => ktf_call "mem"))
  | ((with_reducible refine' rdl_nats ?w1); (case w1 => ktf_call "rdl"))
  | ((with_reducible refine' w2_eqNats ?w1 ?w2 ?wd); (case w1 => ktf_call "rdl"); (case w2 => ktf_call "rdl")))
local macro_rules | `(tactic| ktf_call "step") => `(tactic| first
  | ((with_reducible refine' z_cellof ?w1 ?w2 ?wd); (case w1 => assumption); (case w2 => assumption))
  | (with_reducible refine z_scaninit ?_))
end
section
local macro_rules | `(tactic| ktf_call "step") => `(tactic| first
  | ((with_reducible refine' methBox ?w1 ?w2 ?w3 ?wd); (case w1 => ktf_call "mem"); (case w2 => exact rfl); (case w3 => decide +kernel))
  | ((with_reducible refine' fldG_box ?w1 fun _ _ _ _ => ?wd); (case w1 => ktf_call "pick"))
  | ((with_reducible refine' fldS_box ?w1 fun _ _ _ _ => ?wd); (case w1 => ktf_call "pick"))
  | ((with_reducible refine' z_bneed ?w1 ?w2 ?wd); (case w1 => ktf_call "pick"); (case w2 => first | assumption | ktf_call "lens")))
local macro_rules | `(tactic| ktf_call "step") => `(tactic| first
  | ((with_reducible refine' meth_scanC ?w1 ?w2 ?w3 ?wd); (case w1 => ktf_call "mem"); (case w2 => exact rfl); (case w3 => decide +kernel))
  | ((with_reducible refine' fldG_scanC ?w1 fun _ _ _ _ => ?wd); (case w1 => ktf_call "pick"))
  | ((with_reducible refine' fldG_memC ?w1 fun _ _ _ _ => ?wd); (case w1 => ktf_call "pick"))
  | ((with_reducible refine' fldS_scanC ?w1 fun _ _ _ _ => ?wd); (case w1 => ktf_call "pick"))
  | ((with_reducible refine' fldS_memC ?w1 fun _ _ _ _ => ?wd); (case w1 => ktf_call "pick"))
  | ((with_reducible refine' z_btake ?w1 ?w2 ?w3 ?wd); (case w1 => ktf_call "pick"); (case w2 => first | assumption | ktf_call "lens"); (case w3 => first | assumption | ktf_call "lens"))
  | ((with_reducible refine' z_bput ?w1 ?w2 ?w3 ?wd); (case w1 => ktf_call "pick"); (case w2 => first | assumption | ktf_call "lens"); (case w3 => first | assumption | ktf_call "lens"))
  | ((with_reducible refine' dinMv ?w1 ?wd); (case w1 => ktf_call "mem"))
  | ((with_reducible refine' rdl_nats ?w1); (case w1 => ktf_call "rdl"))
  | ((with_reducible refine' w2_eqNats ?w1 ?w2 ?wd); (case w1 => ktf_call "rdl"); (case w2 => ktf_call "rdl")))
local macro_rules | `(tactic| ktf_call "step") => `(tactic| first
  | ((with_reducible refine' z_cellof ?w1 ?w2 ?wd); (case w1 => assumption); (case w2 => assumption))
  | (with_reducible refine z_scaninit ?_))
section
variable {P : Program} {w : World} {K : PySem.W.Frag} {mg : Str → Option Value} {base : Heap}
def S_meminit (E : Env K mg) : SP := fun vs ps Φ => ∃ (x : Addr) (m : Nat) (R : List HP), vs = [.ref x, .int m] ∧ ps = obj E.i_Memory x [] :: R ∧ m ≤ 100 ∧ Φ .non (memC E.i_Memory x (.new m) :: R)
theorem z_meminit {E : Env K mg} {R : List HP} {Φ : V → List HP → Prop} {x : Addr} {m : Nat} (h : m ≤ 100) (k : Φ .non (memC E.i_Memory x (.new m) :: R)) : S_meminit E [.ref x, .int m] (obj E.i_Memory x [] :: R) Φ := ⟨x, m, R, rfl, rfl, h, k⟩
theorem ok_Memory_init (E : Env K mg) : FnOk P w K mg base CX0 1 E.f_Memory_init E.fd_Memory_init ["self", "many"] (spS (S_meminit E)) := by
  refine Bx.out ?_
  simp (disch := with_unfolding_all
      refine okS E.F_Memory_init sc_Memory_init (fun vs ps Φ h => ?_) (fun cdv A outer s H E0 hr => ?_)
      · obtain ⟨x, m, R, rfl, _⟩ := h; rfl
      · refine ⟨_, ((pss_cons (ps_fld (pv 0) pe_int rfl)
     (pss_cons (ps_fld (pv 0) (pe_disp (pps_cons pe_str pe_int (pps_cons pe_str pe_int (pps_cons pe_str pe_int pps_nil))) (by rfl) (by rfl) (fun z => by cases z) (by decide)) rfl)
     (pss_cons (ps_fld (pv 0) (pe_disp (pps_cons pe_str pe_int (pps_cons pe_str pe_int (pps_cons pe_str pe_int pps_nil))) (by rfl) (by rfl) (fun z => by cases z) (by decide)) rfl)
     (pss_cons (ps_fld (pv 0) (pe_lst pa_nil) rfl)
     (pss_one (ps_fld (pv 0) (pe_op op_rep (pe_lst (pa_cons pe_int pa_nil)) (pv 1)) rfl))))))), fun vs ps Φ h => ?_⟩
        obtain ⟨x, m, R, rfl, rfl, hm, k⟩ := h
        try dsimp only [cxOf]
        show Ws _ _ _ _ _ [_, _] _
        ktf_call "go"
        rename_i q1 q2 q3 q5 q4
        rw [Int.toNat_natCast]
        refine OutP.mk' (Ent.trans ?_ (ent_memNew (q1 := q1) (q2 := q2) (q3 := q3) (q4 := q4))) k
        ktf_call "ent") only [↓Bx.tr]
end
end
section
local macro_rules | `(tactic| ktf_call "step") => `(tactic| first
  | ((with_reducible refine' methBox ?w1 ?w2 ?w3 ?wd); (case w1 => ktf_call "mem"); (case w2 => exact rfl); (case w3 => decide +kernel))
  | ((with_reducible refine' fldG_box ?w1 fun _ _ _ _ => ?wd); (case w1 => ktf_call "pick"))
  | ((with_reducible refine' fldS_box ?w1 fun _ _ _ _ => ?wd); (case w1 => ktf_call "pick"))
  | ((with_reducible refine' z_bneed ?w1 ?w2 ?wd); (case w1 => ktf_call "pick"); (case w2 => first | assumption | ktf_call "lens")))
local macro_rules | `(tactic| ktf_call "step") => `(tactic| first
  | ((with_reducible refine' meth_scanC ?w1 ?w2 ?w3 ?wd); (case w1 => ktf_call "mem"); (case w2 => exact rfl); (case w3 => decide +kernel))
  | ((with_reducible refine' fldG_scanC ?w1 fun _ _ _ _ => ?wd); (case w1 => ktf_call "pick"))
  | ((with_reducible refine' fldG_memC ?w1 fun _ _ _ _ => ?wd); (case w1 => ktf_call "pick"))
  | ((with_reducible refine' fldS_scanC ?w1 fun _ _ _ _ => ?wd); (case w1 => ktf_call "pick"))
  | ((with_reducible refine' fldS_memC ?w1 fun _ _ _ _ => ?wd); (case w1 => ktf_call "pick"))
  | ((with_reducible refine' z_btake ?w1 ?w2 ?w3 ?wd); (case w1 => ktf_call "pick"); (case w2 => first | assumption | ktf_call "lens"); (case w3 => first | assumption | ktf_call "lens"))
  | ((with_reducible refine' z_bput ?w1 ?w2 ?w3 ?wd); (case w1 => ktf_call "pick"); (case w2 => first | assumption | ktf_call "lens"); (case w3 => first | assumption | ktf_call "lens"))
  | ((with_reducible refine' dinMv ?w1 ?wd); (case w1 => ktf_call "mem"))
  | ((with_reducible refine' rdl_nats ?w1); (case w1 => ktf_call "rdl"))
  | ((with_reducible refine' w2_eqNats ?w1 ?w2 ?wd); (case w1 => ktf_call "rdl"); (case w2 => ktf_call "rdl")))
local macro_rules | `(tactic| ktf_call "step") => `(tactic| first
  | ((with_reducible refine' z_cellof ?w1 ?w2 ?wd); (case w1 => assumption); (case w2 => assumption))
  | (with_reducible refine z_scaninit ?_))
end
section
local macro_rules | `(tactic| ktf_call "step") => `(tactic| first
  | ((with_reducible refine' methBox ?w1 ?w2 ?w3 ?wd); (case w1 => ktf_call "mem"); (case w2 => exact rfl); (case w3 => decide +kernel))
  | ((with_reducible refine' fldG_box ?w1 fun _ _ _ _ => ?wd); (case w1 => ktf_call "pick"))
  | ((with_reducible refine' fldS_box ?w1 fun _ _ _ _ => ?wd); (case w1 => ktf_call "pick"))
  | ((with_reducible refine' z_bneed ?w1 ?w2 ?wd); (case w1 => ktf_call "pick"); (case w2 => first | assumption | ktf_call "lens")))
local macro_rules | `(tactic| ktf_call "step") => `(tactic| first
  | ((with_reducible refine' meth_scanC ?w1 ?w2 ?w3 ?wd); (case w1 => ktf_call "mem"); (case w2 => exact rfl); (case w3 => decide +kernel))
  | ((with_reducible refine' fldG_scanC ?w1 fun _ _ _ _ => ?wd); (case w1 => ktf_call "pick"))
  | ((with_reducible refine' fldG_memC ?w1 fun _ _ _ _ => ?wd); (case w1 => ktf_call "pick"))
  | ((with_reducible refine' fldS_scanC ?w1 fun _ _ _ _ => ?wd); (case w1 => ktf_call "pick"))
  | ((with_reducible refine' fldS_memC ?w1 fun _ _ _ _ => ?wd); (case w1 => ktf_call "pick"))
  | ((with_reducible refine' z_btake ?w1 ?w2 ?w3 ?wd); (case w1 => ktf_call "pick"); (case w2 => first | assumption | ktf_call "lens"); (case w3 => first | assumption | ktf_call "lens"))
  | ((with_reducible refine' z_bput ?w1 ?w2 ?w3 ?wd); (case w1 => ktf_call "pick"); (case w2 => first | assumption | ktf_call "lens"); (case w3 => first | assumption | ktf_call "lens"))
  | ((with_reducible refine' dinMv ?w1 ?wd); (case w1 => ktf_call "mem"))
  | ((with_reducible refine' rdl_nats ?w1); (case w1 => ktf_call "rdl"))
  | ((with_reducible refine' w2_eqNats ?w1 ?w2 ?wd); (case w1 => ktf_call "rdl"); (case w2 => ktf_call "rdl")))
local macro_rules | `(tactic| ktf_call "step") => `(tactic| first
  | ((with_reducible refine' z_cellof ?w1 ?w2 ?wd); (case w1 => assumption); (case w2 => assumption))
  | (with_reducible refine z_scaninit ?_))
local macro_rules | `(tactic| ktf_call "step") => `(tactic| first
  | ((with_reducible refine' w2_cat2I ?w1 ?w2 ?w3 fun _ => ?wd); (case w1 => ktf_call "mem"); (case w2 => ktf_call "mem"); (case w3 => ktf_call "lens"))
  | ((with_reducible refine' w2_catI2 ?w1 ?w2 ?w3 fun _ => ?wd); (case w1 => ktf_call "mem"); (case w2 => ktf_call "mem"); (case w3 => ktf_call "lens")))
end
section
local macro_rules | `(tactic| ktf_call "step") => `(tactic| first
  | ((with_reducible refine' methBox ?w1 ?w2 ?w3 ?wd); (case w1 => ktf_call "mem"); (case w2 => exact rfl); (case w3 => decide +kernel))
  | ((with_reducible refine' fldG_box ?w1 fun _ _ _ _ => ?wd); (case w1 => ktf_call "pick"))
  | ((with_reducible refine' fldS_box ?w1 fun _ _ _ _ => ?wd); (case w1 => ktf_call "pick"))
  | ((with_reducible refine' z_bneed ?w1 ?w2 ?wd); (case w1 => ktf_call "pick"); (case w2 => first | assumption | ktf_call "lens")))
local macro_rules | `(tactic| ktf_call "step") => `(tactic| first
  | ((with_reducible refine' meth_scanC ?w1 ?w2 ?w3 ?wd); (case w1 => ktf_call "mem"); (case w2 => exact rfl); (case w3 => decide +kernel))
  | ((with_reducible refine' fldG_scanC ?w1 fun _ _ _ _ => ?wd); (case w1 => ktf_call "pick"))
  | ((with_reducible refine' fldG_memC ?w1 fun _ _ _ _ => ?wd); (case w1 => ktf_call "pick"))
  | ((with_reducible refine' fldS_scanC ?w1 fun _ _ _ _ => ?wd); (case w1 => ktf_call "pick"))
  | ((with_reducible refine' fldS_memC ?w1 fun _ _ _ _ => ?wd); (case w1 => ktf_call "pick"))
  | ((with_reducible refine' z_btake ?w1 ?w2 ?w3 ?wd); (case w1 => ktf_call "pick"); (case w2 => first | assumption | ktf_call "lens"); (case w3 => first | assumption | ktf_call "lens"))
  | ((with_reducible refine' z_bput ?w1 ?w2 ?w3 ?wd); (case w1 => ktf_call "pick"); (case w2 => first | assumption | ktf_call "lens"); (case w3 => first | assumption | ktf_call "lens"))
  | ((with_reducible refine' dinMv ?w1 ?wd); (case w1 => ktf_call "mem"))
  | ((with_reducible refine' rdl_nats ?w1); (case w1 => ktf_call "rdl"))
  | ((with_reducible refine' w2_eqNats ?w1 ?w2 ?wd); (case w1 => ktf_call "rdl"); (case w2 => ktf_call "rdl")))
local macro_rules | `(tactic| ktf_call "step") => `(tactic| first
  | ((with_reducible refine' z_cellof ?w1 ?w2 ?wd); (case w1 => assumption); (case w2 => assumption))
  | (with_reducible refine z_scaninit ?_))
local macro_rules | `(tactic| ktf_call "step") => `(tactic| first
  | ((with_reducible refine' w2_cat2I ?w1 ?w2 ?w3 fun _ => ?wd); (case w1 => ktf_call "mem"); (case w2 => ktf_call "mem"); (case w3 => ktf_call "lens"))
  | ((with_reducible refine' w2_catI2 ?w1 ?w2 ?w3 fun _ => ?wd); (case w1 => ktf_call "mem"); (case w2 => ktf_call "mem"); (case w3 => ktf_call "lens")))
end
section
local macro_rules | `(tactic| ktf_call "step") => `(tactic| first
  | ((with_reducible refine' methBox ?w1 ?w2 ?w3 ?wd); (case w1 => ktf_call "mem"); (case w2 => exact rfl); (case w3 => decide +kernel))
  | ((with_reducible refine' fldG_box ?w1 fun _ _ _ _ => ?wd); (case w1 => ktf_call "pick"))
  | ((with_reducible refine' fldS_box ?w1 fun _ _ _ _ => ?wd); (case w1 => ktf_call "pick"))
  | ((with_reducible refine' z_bneed ?w1 ?w2 ?wd); (case w1 => ktf_call "pick"); (case w2 => first | assumption | ktf_call "lens")))
local macro_rules | `(tactic| ktf_call "step") => `(tactic| first
  | ((with_reducible refine' meth_scanC ?w1 ?w2 ?w3 ?wd); (case w1 => ktf_call "mem"); (case w2 => exact rfl); (case w3 => decide +kernel))
  | ((with_reducible refine' fldG_scanC ?w1 fun _ _ _ _ => ?wd); (case w1 => ktf_call "pick"))
  | ((with_reducible refine' fldG_memC ?w1 fun _ _ _ _ => ?wd); (case w1 => ktf_call "pick"))
  | ((with_reducible refine' fldS_scanC ?w1 fun _ _ _ _ => ?wd); (case w1 => ktf_call "pick"))
  | ((with_reducible refine' fldS_memC ?w1 fun _ _ _ _ => ?wd); (case w1 => ktf_call "pick"))
  | ((with_reducible refine' z_btake ?w1 ?w2 ?w3 ?wd); (case w1 => ktf_call "pick"); (case w2 => first | assumption | ktf_call "lens"); (case w3 => first | assumption | ktf_call "lens"))
  | ((with_reducible refine' z_bput ?w1 ?w2 ?w3 ?wd); (case w1 => ktf_call "pick"); (case w2 => first | assumption | ktf_call "lens"); (case w3 => first | assumption | ktf_call "lens"))
  | ((with_reducible refine' dinMv ?w1 ?wd); (case w1 => ktf_call "mem"))
  | ((with_reducible refine' rdl_nats ?w1); (case w1 => ktf_call "rdl"))
  | ((with_reducible refine' w2_eqNats ?w1 ?w2 ?wd); (case w1 => ktf_call "rdl"); (case w2 => ktf_call "rdl")))
local macro_rules | `(tactic| ktf_call "step") => `(tactic| first
  | ((with_reducible refine' z_cellof ?w1 ?w2 ?wd); (case w1 => assumption); (case w2 => assumption))
  | (with_reducible refine z_scaninit ?_))
local macro_rules | `(tactic| ktf_call "step") => `(tactic| first
  | ((with_reducible refine' w2_cat2I ?w1 ?w2 ?w3 fun _ => ?wd); (case w1 => ktf_call "mem"); (case w2 => ktf_call "mem"); (case w3 => ktf_call "lens"))
  | ((with_reducible refine' w2_catI2 ?w1 ?w2 ?w3 fun _ => ?wd); (case w1 => ktf_call "mem"); (case w2 => ktf_call "mem"); (case w3 => ktf_call "lens")))
local macro_rules | `(tactic| ktf_call "step") => `(tactic| first
  | ((with_reducible refine' fldG_giveC ?w1 ?wd); (case w1 => ktf_call "pick"))
  | ((with_reducible refine' fldS_giveC ?w1 ?wd); (case w1 => ktf_call "pick")))
end
section
local macro_rules | `(tactic| ktf_call "step") => `(tactic| first
  | ((with_reducible refine' methBox ?w1 ?w2 ?w3 ?wd); (case w1 => ktf_call "mem"); (case w2 => exact rfl); (case w3 => decide +kernel))
  | ((with_reducible refine' fldG_box ?w1 fun _ _ _ _ => ?wd); (case w1 => ktf_call "pick"))
  | ((with_reducible refine' fldS_box ?w1 fun _ _ _ _ => ?wd); (case w1 => ktf_call "pick"))
  | ((with_reducible refine' z_bneed ?w1 ?w2 ?wd); (case w1 => ktf_call "pick"); (case w2 => first | assumption | ktf_call "lens")))
local macro_rules | `(tactic| ktf_call "step") => `(tactic| first
  | ((with_reducible refine' meth_scanC ?w1 ?w2 ?w3 ?wd); (case w1 => ktf_call "mem"); (case w2 => exact rfl); (case w3 => decide +kernel))
  | ((with_reducible refine' fldG_scanC ?w1 fun _ _ _ _ => ?wd); (case w1 => ktf_call "pick"))
  | ((with_reducible refine' fldG_memC ?w1 fun _ _ _ _ => ?wd); (case w1 => ktf_call "pick"))
  | ((with_reducible refine' fldS_scanC ?w1 fun _ _ _ _ => ?wd); (case w1 => ktf_call "pick"))
  | ((with_reducible refine' fldS_memC ?w1 fun _ _ _ _ => ?wd); (case w1 => ktf_call "pick"))
  | ((with_reducible refine' z_btake ?w1 ?w2 ?w3 ?wd); (case w1 => ktf_call "pick"); (case w2 => first | assumption | ktf_call "lens"); (case w3 => first | assumption | ktf_call "lens"))
  | ((with_reducible refine' z_bput ?w1 ?w2 ?w3 ?wd); (case w1 => ktf_call "pick"); (case w2 => first | assumption | ktf_call "lens"); (case w3 => first | assumption | ktf_call "lens"))
  | ((with_reducible refine' dinMv ?w1 ?wd); (case w1 => ktf_call "mem"))
  | ((with_reducible refine' rdl_nats ?w1); (case w1 => ktf_call "rdl"))
  | ((with_reducible refine' w2_eqNats ?w1 ?w2 ?wd); (case w1 => ktf_call "rdl"); (case w2 => ktf_call "rdl")))
local macro_rules | `(tactic| ktf_call "step") => `(tactic| first
  | ((with_reducible refine' z_cellof ?w1 ?w2 ?wd); (case w1 => assumption); (case w2 => assumption))
  | (with_reducible refine z_scaninit ?_))
local macro_rules | `(tactic| ktf_call "step") => `(tactic| first
  | ((with_reducible refine' w2_cat2I ?w1 ?w2 ?w3 fun _ => ?wd); (case w1 => ktf_call "mem"); (case w2 => ktf_call "mem"); (case w3 => ktf_call "lens"))
  | ((with_reducible refine' w2_catI2 ?w1 ?w2 ?w3 fun _ => ?wd); (case w1 => ktf_call "mem"); (case w2 => ktf_call "mem"); (case w3 => ktf_call "lens")))
end
section
local macro_rules | `(tactic| ktf_call "step") => `(tactic| first
  | ((with_reducible refine' methBox ?w1 ?w2 ?w3 ?wd); (case w1 => ktf_call "mem"); (case w2 => exact rfl); (case w3 => decide +kernel))
  | ((with_reducible refine' fldG_box ?w1 fun _ _ _ _ => ?wd); (case w1 => ktf_call "pick"))
  | ((with_reducible refine' fldS_box ?w1 fun _ _ _ _ => ?wd); (case w1 => ktf_call "pick"))
  | ((with_reducible refine' z_bneed ?w1 ?w2 ?wd); (case w1 => ktf_call "pick"); (case w2 => first | assumption | ktf_call "lens")))
local macro_rules | `(tactic| ktf_call "step") => `(tactic| first
  | ((with_reducible refine' meth_scanC ?w1 ?w2 ?w3 ?wd); (case w1 => ktf_call "mem"); (case w2 => exact rfl); (case w3 => decide +kernel))
  | ((with_reducible refine' fldG_scanC ?w1 fun _ _ _ _ => ?wd); (case w1 => ktf_call "pick"))
  | ((with_reducible refine' fldG_memC ?w1 fun _ _ _ _ => ?wd); (case w1 => ktf_call "pick"))
  | ((with_reducible refine' fldS_scanC ?w1 fun _ _ _ _ => ?wd); (case w1 => ktf_call "pick"))
  | ((with_reducible refine' fldS_memC ?w1 fun _ _ _ _ => ?wd); (case w1 => ktf_call "pick"))
  | ((with_reducible refine' z_btake ?w1 ?w2 ?w3 ?wd); (case w1 => ktf_call "pick"); (case w2 => first | assumption | ktf_call "lens"); (case w3 => first | assumption | ktf_call "lens"))
  | ((with_reducible refine' z_bput ?w1 ?w2 ?w3 ?wd); (case w1 => ktf_call "pick"); (case w2 => first | assumption | ktf_call "lens"); (case w3 => first | assumption | ktf_call "lens"))
  | ((with_reducible refine' dinMv ?w1 ?wd); (case w1 => ktf_call "mem"))
  | ((with_reducible refine' rdl_nats ?w1); (case w1 => ktf_call "rdl"))
  | ((with_reducible refine' w2_eqNats ?w1 ?w2 ?wd); (case w1 => ktf_call "rdl"); (case w2 => ktf_call "rdl")))
local macro_rules | `(tactic| ktf_call "step") => `(tactic| first
  | ((with_reducible refine' z_cellof ?w1 ?w2 ?wd); (case w1 => assumption); (case w2 => assumption))
  | (with_reducible refine z_scaninit ?_))
local macro_rules | `(tactic| ktf_call "step") => `(tactic| first
  | ((with_reducible refine' w2_cat2I ?w1 ?w2 ?w3 fun _ => ?wd); (case w1 => ktf_call "mem"); (case w2 => ktf_call "mem"); (case w3 => ktf_call "lens"))
  | ((with_reducible refine' w2_catI2 ?w1 ?w2 ?w3 fun _ => ?wd); (case w1 => ktf_call "mem"); (case w2 => ktf_call "mem"); (case w3 => ktf_call "lens")))
local macro_rules | `(tactic| ktf_call "step") => `(tactic| first
  | ((with_reducible refine' w2_ixD ?w1 ?wd); (case w1 => assumption)))
end
section
local macro_rules | `(tactic| ktf_call "step") => `(tactic| first
  | ((with_reducible refine' methBox ?w1 ?w2 ?w3 ?wd); (case w1 => ktf_call "mem"); (case w2 => exact rfl); (case w3 => decide +kernel))
  | ((with_reducible refine' fldG_box ?w1 fun _ _ _ _ => ?wd); (case w1 => ktf_call "pick"))
  | ((with_reducible refine' fldS_box ?w1 fun _ _ _ _ => ?wd); (case w1 => ktf_call "pick"))
  | ((with_reducible refine' z_bneed ?w1 ?w2 ?wd); (case w1 => ktf_call "pick"); (case w2 => first | assumption | ktf_call "lens")))
local macro_rules | `(tactic| ktf_call "step") => `(tactic| first
  | ((with_reducible refine' meth_scanC ?w1 ?w2 ?w3 ?wd); (case w1 => ktf_call "mem"); (case w2 => exact rfl); (case w3 => decide +kernel))
  | ((with_reducible refine' fldG_scanC ?w1 fun _ _ _ _ => ?wd); (case w1 => ktf_call "pick"))
  | ((with_reducible refine' fldG_memC ?w1 fun _ _ _ _ => ?wd); (case w1 => ktf_call "pick"))
  | ((with_reducible refine' fldS_scanC ?w1 fun _ _ _ _ => ?wd); (case w1 => ktf_call "pick"))
  | ((with_reducible refine' fldS_memC ?w1 fun _ _ _ _ => ?wd); (case w1 => ktf_call "pick"))
  | ((with_reducible refine' z_btake ?w1 ?w2 ?w3 ?wd); (case w1 => ktf_call "pick"); (case w2 => first | assumption | ktf_call "lens"); (case w3 => first | assumption | ktf_call "lens"))
  | ((with_reducible refine' z_bput ?w1 ?w2 ?w3 ?wd); (case w1 => ktf_call "pick"); (case w2 => first | assumption | ktf_call "lens"); (case w3 => first | assumption | ktf_call "lens"))
  | ((with_reducible refine' dinMv ?w1 ?wd); (case w1 => ktf_call "mem"))
  | ((with_reducible refine' rdl_nats ?w1); (case w1 => ktf_call "rdl"))
  | ((with_reducible refine' w2_eqNats ?w1 ?w2 ?wd); (case w1 => ktf_call "rdl"); (case w2 => ktf_call "rdl")))
local macro_rules | `(tactic| ktf_call "step") => `(tactic| first
  | ((with_reducible refine' z_cellof ?w1 ?w2 ?wd); (case w1 => assumption); (case w2 => assumption))
  | (with_reducible refine z_scaninit ?_))
section
variable {P : Program} {w : World} {K : PySem.W.Frag} {mg : Str → Option Value} {base : Heap}
def S_needhand (K : PySem.W.Frag) : SP := fun vs ps Φ => ∃ (x : Addr) (m h : Nat), vs = [.ref x, .int h] ∧ RdF K ps x "many" (.int m) ∧ h < m ∧ Φ .non ps
theorem z_needhand {ps : List HP} {Φ : V → List HP → Prop} {x : Addr} {m h : Nat} (rd : RdF K ps x "many" (.int m)) (hh : h < m) (k : Φ .non ps) : S_needhand K [.ref x, .int h] ps Φ := ⟨x, m, h, rfl, rd, hh, k⟩
end
end
section
local macro_rules | `(tactic| ktf_call "step") => `(tactic| first
  | ((with_reducible refine' methBox ?w1 ?w2 ?w3 ?wd); (case w1 => ktf_call "mem"); (case w2 => exact rfl); (case w3 => decide +kernel))
  | ((with_reducible refine' fldG_box ?w1 fun _ _ _ _ => ?wd); (case w1 => ktf_call "pick"))
  | ((with_reducible refine' fldS_box ?w1 fun _ _ _ _ => ?wd); (case w1 => ktf_call "pick"))
  | ((with_reducible refine' z_bneed ?w1 ?w2 ?wd); (case w1 => ktf_call "pick"); (case w2 => first | assumption | ktf_call "lens")))
local macro_rules | `(tactic| ktf_call "step") => `(tactic| first
  | ((with_reducible refine' meth_scanC ?w1 ?w2 ?w3 ?wd); (case w1 => ktf_call "mem"); (case w2 => exact rfl); (case w3 => decide +kernel))
  | ((with_reducible refine' fldG_scanC ?w1 fun _ _ _ _ => ?wd); (case w1 => ktf_call "pick"))
  | ((with_reducible refine' fldG_memC ?w1 fun _ _ _ _ => ?wd); (case w1 => ktf_call "pick"))
  | ((with_reducible refine' fldS_scanC ?w1 fun _ _ _ _ => ?wd); (case w1 => ktf_call "pick"))
  | ((with_reducible refine' fldS_memC ?w1 fun _ _ _ _ => ?wd); (case w1 => ktf_call "pick"))
  | ((with_reducible refine' z_btake ?w1 ?w2 ?w3 ?wd); (case w1 => ktf_call "pick"); (case w2 => first | assumption | ktf_call "lens"); (case w3 => first | assumption | ktf_call "lens"))
  | ((with_reducible refine' z_bput ?w1 ?w2 ?w3 ?wd); (case w1 => ktf_call "pick"); (case w2 => first | assumption | ktf_call "lens"); (case w3 => first | assumption | ktf_call "lens"))
  | ((with_reducible refine' dinMv ?w1 ?wd); (case w1 => ktf_call "mem"))
  | ((with_reducible refine' rdl_nats ?w1); (case w1 => ktf_call "rdl"))
  | ((with_reducible refine' w2_eqNats ?w1 ?w2 ?wd); (case w1 => ktf_call "rdl"); (case w2 => ktf_call "rdl")))
local macro_rules | `(tactic| ktf_call "step") => `(tactic| first
  | ((with_reducible refine' z_cellof ?w1 ?w2 ?wd); (case w1 => assumption); (case w2 => assumption))
  | (with_reducible refine z_scaninit ?_))
local macro_rules | `(tactic| ktf_call "step") => `(tactic| first
  | ((with_reducible refine' w2_ixD ?w1 ?wd); (case w1 => assumption)))
local macro_rules | `(tactic| ktf_call "rdf") => `(tactic| first | with_reducible assumption | ((with_reducible refine' rdf_obj ?w1 ?w2 ?w3); (case w1 => ktf_call "mem"); (case w2 => exact rfl); (case w3 => ktf_call "mem")))
local macro_rules | `(tactic| ktf_call "step") => `(tactic| first
  | ((with_reducible refine' z_needhand ?w1 ?w2 ?wd); (case w1 => ktf_call "rdf"); (case w2 => assumption)))
end
section
local macro_rules | `(tactic| ktf_call "step") => `(tactic| first
  | ((with_reducible refine' methBox ?w1 ?w2 ?w3 ?wd); (case w1 => ktf_call "mem"); (case w2 => exact rfl); (case w3 => decide +kernel))
  | ((with_reducible refine' fldG_box ?w1 fun _ _ _ _ => ?wd); (case w1 => ktf_call "pick"))
  | ((with_reducible refine' fldS_box ?w1 fun _ _ _ _ => ?wd); (case w1 => ktf_call "pick"))
  | ((with_reducible refine' z_bneed ?w1 ?w2 ?wd); (case w1 => ktf_call "pick"); (case w2 => first | assumption | ktf_call "lens")))
local macro_rules | `(tactic| ktf_call "step") => `(tactic| first
  | ((with_reducible refine' meth_scanC ?w1 ?w2 ?w3 ?wd); (case w1 => ktf_call "mem"); (case w2 => exact rfl); (case w3 => decide +kernel))
  | ((with_reducible refine' fldG_scanC ?w1 fun _ _ _ _ => ?wd); (case w1 => ktf_call "pick"))
  | ((with_reducible refine' fldG_memC ?w1 fun _ _ _ _ => ?wd); (case w1 => ktf_call "pick"))
  | ((with_reducible refine' fldS_scanC ?w1 fun _ _ _ _ => ?wd); (case w1 => ktf_call "pick"))
  | ((with_reducible refine' fldS_memC ?w1 fun _ _ _ _ => ?wd); (case w1 => ktf_call "pick"))
  | ((with_reducible refine' z_btake ?w1 ?w2 ?w3 ?wd); (case w1 => ktf_call "pick"); (case w2 => first | assumption | ktf_call "lens"); (case w3 => first | assumption | ktf_call "lens"))
  | ((with_reducible refine' z_bput ?w1 ?w2 ?w3 ?wd); (case w1 => ktf_call "pick"); (case w2 => first | assumption | ktf_call "lens"); (case w3 => first | assumption | ktf_call "lens"))
  | ((with_reducible refine' dinMv ?w1 ?wd); (case w1 => ktf_call "mem"))
  | ((with_reducible refine' rdl_nats ?w1); (case w1 => ktf_call "rdl"))
  | ((with_reducible refine' w2_eqNats ?w1 ?w2 ?wd); (case w1 => ktf_call "rdl"); (case w2 => ktf_call "rdl")))
local macro_rules | `(tactic| ktf_call "step") => `(tactic| first
  | ((with_reducible refine' z_cellof ?w1 ?w2 ?wd); (case w1 => assumption); (case w2 => assumption))
  | (with_reducible refine z_scaninit ?_))
local macro_rules | `(tactic| ktf_call "step") => `(tactic| first
  | ((with_reducible refine' w2_ixD ?w1 ?wd); (case w1 => assumption)))
local macro_rules | `(tactic| ktf_call "rdf") => `(tactic| first | with_reducible assumption | ((with_reducible refine' rdf_obj ?w1 ?w2 ?w3); (case w1 => ktf_call "mem"); (case w2 => exact rfl); (case w3 => ktf_call "mem")))
local macro_rules | `(tactic| ktf_call "step") => `(tactic| first
  | ((with_reducible refine' z_needhand ?w1 ?w2 ?wd); (case w1 => ktf_call "rdf"); (case w2 => assumption)))
section
variable {P : Program} {w : World} {K : PySem.W.Frag} {mg : Str → Option Value} {base : Heap}
def S_need (K : PySem.W.Frag) : SP := fun vs ps Φ => ∃ (q : Addr) (d : Deed) (h : Int), vs = [.ref q, .int h] ∧ RdT K ps q d.vals ∧ d.ok ∧ (d = .take → h = 0) ∧ Φ .non ps
theorem z_need {ps : List HP} {Φ : V → List HP → Prop} {q : Addr} {d : Deed} {h : Int} (rd : RdT K ps q d.vals) (ok : d.ok) (ht : d = .take → h = 0) (k : Φ .non ps) : S_need K [.ref q, .int h] ps Φ := ⟨q, d, h, rfl, rd, ok, ht, k⟩
theorem ok_need_deed (E : Env K mg) : FnOk P w K mg base CX0 1 E.f_need_deed E.fd_need_deed ["deed", "hand"] (spS (S_need K)) := by
  refine Bx.out ?_
  simp (disch := with_unfolding_all
      refine okS E.F_need_deed sc_need_deed (fun vs ps Φ h => ?_) (fun cdv A outer s H E0 hr => ?_)
      · obtain ⟨q, d, h, rfl, _⟩ := h; rfl
      · refine ⟨_, ((Evl.pss_cut (ps_if (PW.pt (pw_and (pt_cmpR op_eq (pe_callB cr_len (by rfl) E.bn_len (by decide +kernel) (pa_cons (pv 0) pa_nil)) pe_int (nomark _)) (pw_and1 (pt_cmpR op_in_seq (pe_ix ix_tup (pv 0) pe_int (fun _ _ => rfl)) (pe_glob (v := .ref E.a_WITH_NUMBER) (by rfl) E.g_WITH_NUMBER rfl) (by rfl))))) (pss_one (ps_if (pt_not (pt_chain op_le op_le pe_int (pe_ix ix_tup (pv 0) pe_int (fun _ _ => rfl)) (pe_glob (v := .int 999) (by rfl) E.g_MOST_NUMBER ⟨_, rfl⟩))) (pss_one ps_never) pss_nil)) (pss_one (ps_if (PW.pt (pw_or (pt_cmpR op_ne (pe_callB cr_len (by rfl) E.bn_len (by decide +kernel) (pa_cons (pv 0) pa_nil)) pe_int (nomark _)) (pw_or1 (pt_cmpR op_notIn_seq (pe_ix ix_tup (pv 0) pe_int (fun _ _ => rfl)) (pe_glob (v := .ref E.a_ALONE) (by rfl) E.g_ALONE rfl) (by rfl))))) (pss_one ps_never) pss_nil)))
     (pss_one (ps_if (PW.pt (pw_and (pt_cmpR op_eq (pe_ix ix_tup (pv 0) pe_int (fun _ _ => rfl)) pe_str (nomark _)) (pw_and1 (pt_cmpR op_ne (pv 1) pe_int (nomark _))))) (pss_one ps_never) pss_nil)))), fun vs ps Φ h => ?_⟩
        obtain ⟨q, d, h, rfl, rd, ok, ht, k⟩ := h
        try dsimp only [cxOf]
        show Ws _ _ _ _ _ [_, _] _
        have t1 := E.t_WITH_NUMBER
        have t2 := E.t_ALONE
        have rd1 : RdT K ps E.a_WITH_NUMBER _ := rdt_of t1
        have rd2 : RdT K ps E.a_ALONE _ := rdt_of t2
        cases d
        all_goals simp only [Deed.vals] at rd
        all_goals refine ws_plain ?_
        all_goals ktf_call "go"
        all_goals first | ((refine OutP.mk' ?_ k); ktf_call "ent") | skip
        all_goals try (refine iteTd rfl ?_; ktf_call "go")
        all_goals try (refine iteD (fun _ => ?_) (fun z => absurd (Int.natCast_nonneg _) z); ktf_call "go")
        all_goals try (refine iteND (fun z => absurd (by have hk : _ < 1000 := ok; omega) z) (fun _ => ?_); ktf_call "go"; exact OutP.mk' (by ktf_call "ent") k)
        refine iteND (fun z => absurd (ht rfl) z) (fun _ => ?_)
        ktf_call "go"
        exact OutP.mk' (by ktf_call "ent") k) only [↓Bx.tr]
end
theorem w2_repV {ps : List HP} {Φ : V → List HP → Prop} {a : Addr} {v : V} {n : Nat} (m : pt a (.lst [v]) ∈ ps) (h : n ≤ 1000000) (k : ∀ p, Φ (.ref p) (pt p (.lst (List.replicate n v)) :: ps)) : W2 rRep (.ref a) (.int (n : Int)) ps Φ := by
  refine w2_rep m (by omega) (by omega) ?_ fun p => ?_
  · have : sizeLine ≥ 1000000 := by decide
    simp only [List.length_cons, List.length_nil]; omega
  · have e : (List.replicate (n : Int).toNat [v]).flatten = List.replicate n v := by
      rw [Int.toNat_natCast]
      clear k m h
      induction n with
      | zero => rfl
      | succ j ih => rw [List.replicate_succ, List.flatten_cons, ih, List.replicate_succ]; rfl
    rw [e]; exact k p
theorem rdl_eachR {K : PySem.W.Frag} {ps : List HP} {as : List Addr} {das : List (List Addr)} {n k : Nat} (m : eachR n (fun i => pt (as.getD i 0) (.lst ((das.getD i []).map V.ref))) ∈ ps) (hk : k < n) : RdL K ps (as.getD k 0) ((das.getD k []).map V.ref) := RdL.ent (eachR_at m hk) (rdl_pt (List.mem_cons_self ..))
theorem snocEach {F : Addr → Nat → HP} {d q : Addr} {ns : List Addr} {i : Nat} {R : List HP} (h : ns.length = i) : Ent (pt d (.lst (ns.map V.ref ++ [.ref q])) :: F q i :: eachR i (fun k => F (ns.getD k 0) k) :: R) (pt d (.lst ((ns ++ [q]).map V.ref)) :: eachR (i + 1) (fun k => F ((ns ++ [q]).getD k 0) k) :: R) := by
  have e1 : ns.map V.ref ++ [V.ref q] = (ns ++ [q]).map V.ref := by rw [List.map_append]; rfl
  rw [e1]
  refine Ent.cons ?_
  have c := eachR_snoc (R := R) (n := i) (f := fun k => F (ns.getD k 0) k) (g := fun k => F ((ns ++ [q]).getD k 0) k) fun k hk => by
    show F ((ns ++ [q]).getD k 0) k = F (ns.getD k 0) k
    rw [getD_snoc_lt (by omega)]
  rw [getD_snoc_eq h.symm] at c
  exact c
theorem eachR_of {n : Nat} {f : Nat → HP} {R : List HP} (h : ∀ k, k < n → ∀ R, Ent R (f k :: R)) : Ent R (eachR n f :: R) := by
  induction n with
  | zero => exact eachR_zero
  | succ n ih => exact (ih fun k hk => h k (by omega)).trans ((h n (by omega) _).trans (eachR_snoc fun _ _ => rfl))
section
variable {P : Program} {w : World} {K : PySem.W.Frag} {mg : Str → Option Value} {base : Heap}
def PlanOk' (P : List (List Deed)) : Prop := (1 ≤ P.length ∧ P.length ≤ 4) ∧ ∀ h, h < P.length → (P.getD h []).length ≤ 40 ∧ ∀ d ∈ P.getD h [], d.ok ∧ (d = .take → h = 0)
def S_hallinit (E : Env K mg) : SP := fun vs ps Φ => ∃ (x a : Addr) (L : Pool) (Pl : List (List Deed)) (R : List HP), vs = [.ref x, .ref a] ∧ Ent ps (obj E.i_Hall x [] :: plansC L a Pl :: tups L :: R) ∧ PlanOk' Pl ∧ Φ .non (hallC (hiE E) x L (.new Pl) :: plansC L a Pl :: tups L :: R)
theorem z_hallinit {E : Env K mg} {ps R : List HP} {Φ : V → List HP → Prop} {x a : Addr} {L : Pool} {Pl : List (List Deed)} (e : Ent ps (obj E.i_Hall x [] :: plansC L a Pl :: tups L :: R)) (h : PlanOk' Pl) (k : Φ .non (hallC (hiE E) x L (.new Pl) :: plansC L a Pl :: tups L :: R)) : S_hallinit E [.ref x, .ref a] ps Φ := ⟨x, a, L, Pl, R, rfl, e, h, k⟩
theorem ok_Hall_init (E : Env K mg) : FnOk P w K mg base CX0 3 E.f_Hall_init E.fd_Hall_init ["self", "plans"] (spS (S_hallinit E)) := by
  refine Bx.out ?_
  simp (disch := with_unfolding_all
      refine okS E.F_Hall_init sc_Hall_init (fun vs ps Φ h => ?_) (fun cdv A outer s H E0 hr => ?_)
      · obtain ⟨x, a, L, Pl, R, rfl, _⟩ := h; rfl
      · have hu := hu_of hr
        refine ⟨_, ((pss_cons (ps_if (pt_not (pt_chain op_le op_le pe_int (pe_callB cr_len (by rfl) E.bn_len (by decide +kernel) (pa_cons (pv 1) pa_nil)) (pe_glob (v := .int 4) (by rfl) E.g_MOST_HANDS ⟨_, rfl⟩))) (pss_one ps_never) pss_nil)
     (pss_cons (ps_for PassesOwn.never rfl (pi_enum (by rfl) E.bn_enumerate (pa_cons (pv 1) pa_nil)) (pg_tup rfl (pgs_cons (pg_name (i := 2) sc_Hall_init.nd rfl (by first | exact Or.inl rfl | exact Or.inr rfl)) (pgs_cons (pg_name (i := 3) sc_Hall_init.nd rfl (by first | exact Or.inl rfl | exact Or.inr rfl)) pgs_nil))) (pss_cons (ps_if (pt_cmpR op_gt (pe_callB cr_len (by rfl) E.bn_len (by decide +kernel) (pa_cons (pv 3) pa_nil)) (pe_glob (v := .int 40) (by rfl) E.g_MOST_DEEDS ⟨_, rfl⟩) (nomark _)) (pss_one ps_never) pss_nil)
     (pss_one (ps_for PassesOwn.never rfl (pi_list (pv 3)) (pg_name (i := 4) sc_Hall_init.nd rfl (by first | exact Or.inl rfl | exact Or.inr rfl)) (pss_one (ps_expr (pe_call (ok_need_deed E) (hr.mono (by decide)) rfl E.g_need_deed E.k_need_deed E.b_need_deed .nil pass0 (pa_cons (pv 4) (pa_cons (pv 2) pa_nil)))))))))
     (pss_cons (ps_fld (pv 0) (pe_callB cr_len (by rfl) E.bn_len (by decide +kernel) (pa_cons (pv 1) pa_nil)) rfl)
     (pss_cons (ps_fld (pv 0) (pe_lc (own := [("plan", 3)]) (g := gName 3) (te := (tCB (rListOf K) _)) (tt := tYes)  (by rfl) sc_Hall_init.nd (pi_list (pv 1)) (blkOk_by (own := [("plan", 3)]) (N := n_Hall_init) (sc := defScope s_Hall_init) (by decide +kernel)) (fun _ _ _ _ _ => (pg_name (i := 3) sc_Hall_init.nd rfl (by first | exact Or.inl rfl | exact Or.inr rfl))) (fun _ _ _ _ _ => pts_nil) (fun _ _ _ _ _ => (pe_callTy cr_listOf (by rfl) E.bn_list (by decide +kernel) (pa_cons (pv 3) pa_nil)))) rfl)
     (pss_cons (ps_fld (pv 0) (pe_make E.mk_Boxes (ok_Boxes_init E) (hr.mono (by decide)) rfl E.g_Boxes E.b_Boxes_init .nil pass0 (pa_cons (pe_op op_mul (pe_glob (v := .int 5) (by rfl) E.g_THINGS ⟨_, rfl⟩) (pe_fld (pv 0) rfl)) pa_nil)) rfl)
     (pss_cons (ps_fld (pv 0) (pe_lc (own := [("plan", 3)]) (g := gName 3) (te := (tMake _ _ [] _ (tCons (tFld K _ "many") tNil))) (tt := tYes)  (by rfl) sc_Hall_init.nd (pi_list (pv 1)) (blkOk_by (own := [("plan", 3)]) (N := n_Hall_init) (sc := defScope s_Hall_init) (by decide +kernel)) (fun _ _ _ _ _ => (pg_name (i := 3) sc_Hall_init.nd rfl (by first | exact Or.inl rfl | exact Or.inr rfl))) (fun _ _ _ _ _ => pts_nil) (fun _ _ _ _ _ => (pe_make E.mk_Memory (ok_Memory_init E) (hr.mono (by decide)) rfl E.g_Memory E.b_Memory_init .nil pass0 (pa_cons (pe_fld (pv 0) rfl) pa_nil)))) rfl)
     (pss_cons (ps_fld (pv 0) (pe_op op_rep (pe_lst (pa_cons pe_non pa_nil)) (pe_fld (pv 0) rfl)) rfl)
     (pss_cons (ps_fld (pv 0) (pe_op op_rep (pe_lst (pa_cons pe_int pa_nil)) (pe_fld (pv 0) rfl)) rfl)
     (pss_cons (ps_fld (pv 0) (pe_op op_rep (pe_lst (pa_cons pe_int pa_nil)) (pe_fld (pv 0) rfl)) rfl)
     (pss_cons (ps_fld (pv 0) (pe_lst pa_nil) rfl)
     (pss_cons (ps_fld (pv 0) pe_dnewT rfl)
     (pss_one (ps_fld (pv 0) (pe_lst pa_nil) rfl)))))))))))))), fun vs ps Φ h => ?_⟩
        obtain ⟨x, a, L, Pl, R, rfl, pk, ⟨⟨hp1, hp2⟩, hpl⟩, k⟩ := h
        try dsimp only [cxOf]
        show Ws _ _ _ _ _ [_, _, _, _, _] _
        refine Ws.ent (pk.trans (Ent.perm (List.Perm.swap _ _ _))) (Ws.opn opn_plans fun pz => ?_)
        obtain ⟨as, das, la, ld, dd⟩ := pz
        dsimp only
        ktf_call "go"
        rw [List.length_map, la]
        refine iteD (fun _ => ?_) (fun z => absurd (by omega) z)
        ktf_call "go"
        refine iteND (fun z => absurd (by omega) z) (fun _ => ?_)
        ktf_call "go"
        refine ws_for (wi_E ?_)
        ktf_call "go"
        refine ⟨a, _, rfl, by ktf_call "rdl", fun i σ ps => ∃ v2 v3 v4, σ = [some (.ref x), some (.ref a), v2, v3, v4] ∧ Ent ps (obj E.i_Hall x [] :: pt a (.lst (as.map V.ref)) :: eachR Pl.length (fun i => pt (as.getD i 0) (.lst ((das.getD i []).map V.ref))) :: tups L :: R), ⟨none, none, none, rfl, by ktf_call "ent"⟩, ?_, ?_, ?_⟩
        · rintro i σ ps ⟨v2, v3, v4, rfl, e⟩ _
          exact RdL.ent e (by ktf_call "rdl")
        · rintro i y ex σ ps hi ⟨p, y2, hy, rfl, rfl⟩ ⟨v2, v3, v4, rfl, e⟩
          replace hi : i < Pl.length := by simpa [srcE, la] using hi
          have hy2 : y2 = .ref (as.getD i 0) := by
            rw [List.getElem?_map, getD_lt (d := 0) (by omega)] at hy
            exact (Option.some.inj hy).symm
          subst hy2
          refine Wg.ent e ?_
          have hdd := dd i hi
          obtain ⟨hl40, hdok⟩ := hpl i hi
          ktf_call "go"
          refine wc_lenL (rdl_eachR (by ktf_call "mem") hi) ?_
          ktf_call "go"
          rw [List.length_map, hdd.1]
          refine iteD (fun z => absurd z (by omega)) (fun _ => ?_)
          ktf_call "go"
          refine ws_for (wi_L ?_)
          ktf_call "go"
          refine ⟨as.getD i 0, _, rfl, rdl_eachR (n := Pl.length) (by ktf_call "mem") hi, fun j σ ps => ∃ v4, σ = [some (.ref x), some (.ref a), some (.int (i : Nat)), some (.ref (as.getD i 0)), v4] ∧ ps = _, ⟨v4, rfl, rfl⟩, ?_, ?_, ?_⟩
          · rintro j σ ps ⟨v4, rfl, rfl⟩ _
            exact rdl_eachR (n := Pl.length) (by ktf_call "mem") hi
          · rintro j y ex σ ps hj ⟨hy, rfl⟩ ⟨v4, rfl, rfl⟩
            replace hj : j < (das.getD i []).length := by simpa [srcL] using hj
            have hj2 : j < (Pl.getD i []).length := by rw [← hdd.1]; exact hj
            have hy2 : y = .ref (das.getD i [])[j] := by
              rw [List.getElem?_map, List.getElem?_eq_getElem hj] at hy
              exact (Option.some.inj hy).symm
            subst hy2
            have hin := hdd.2 j _ _ (List.getElem?_eq_getElem hj) (List.getElem?_eq_getElem hj2)
            obtain ⟨o1, o2⟩ := hdok _ (List.getElem_mem hj2)
            generalize (Pl.getD i [])[j] = dd1 at hin o1 o2
            generalize (das.getD i [])[j] = da1 at hin
            ktf_call "go"
            refine' z_need (d := dd1) (rdt_tups (L := L) ?y1 hin) o1 (fun z => by rw [o2 z]; rfl) ?y2
            case y1 => ktf_call "mem"
            ktf_call "go"
            exact ⟨_, rfl, rfl⟩
          · rintro σ ps ⟨v4, rfl, rfl⟩
            exact ⟨_, _, _, rfl, by ktf_call "ent"⟩
        · rintro σ ps ⟨v2, v3, v4, rfl, e⟩
          refine Ws.ent e ?_
          ktf_call "go"
          rw [List.length_map, la]
          refine we_lc (wi_L ?_)
          ktf_call "go"
          refine ⟨a, _, rfl, by ktf_call "rdl", fun d i acc ps => ∃ ns : List Addr, ns.length = i ∧ acc = ns.map V.ref ∧ Ent ps (pt d (.lst acc) :: eachR i (fun k => pt (ns.getD k 0) (.lst ((das.getD k []).map V.ref))) :: _), fun d => ⟨[], rfl, rfl, Ent.cons eachR_zero⟩, ?_, ?_, ?_⟩
          · rintro d i acc ps ⟨ns, hn, rfl, e2⟩ _
            exact RdL.ent e2 (by ktf_call "rdl")
          · rintro d i y ex acc ps hi ⟨hy, rfl⟩ ⟨ns, hn, rfl, e2⟩
            replace hi : i < Pl.length := by simpa [srcL, la] using hi
            have hy2 : y = .ref (as.getD i 0) := by
              rw [List.getElem?_map, getD_lt (d := 0) (by omega)] at hy
              exact (Option.some.inj hy).symm
            subst hy2
            have hnl : (ns.map V.ref).length < sizeLine := by rw [List.length_map]; exact Nat.lt_of_le_of_lt (m := 1000) (by omega) (by decide)
            refine Wg.ent e2 ?_
            ktf_call "go"
            refine wc_listL (rdl_eachR (n := Pl.length) (as := as) (das := das) (by ktf_call "mem") hi) fun q => ?_
            ktf_call "go"
            refine ⟨ns ++ [q], by simp [hn], by simp, ?_⟩
            have c := snocEach (F := fun q k => pt q (.lst ((das.getD k []).map V.ref))) (d := d) (q := q) (ns := ns) (i := i) (R := obj E.i_Hall x [("many", .int (Pl.length : Nat))] :: pt a (.lst (as.map V.ref)) :: eachR Pl.length (fun i => pt (as.getD i 0) (.lst ((das.getD i []).map V.ref))) :: tups L :: R) hn
            have em : (ns ++ [q]).map V.ref = ns.map V.ref ++ [.ref q] := by simp
            rw [em] at c
            refine' Ent.trans ?y3 c
            case y3 => ktf_call "ent"
          rintro d acc ps ⟨ns, hn, rfl, e2⟩
          have hn : ns.length = Pl.length := by simpa [srcL, la] using hn
          have e3 : (srcL K a (as.map V.ref)).n = Pl.length := by simp [srcL, la]
          rw [e3] at e2
          clear e
          have e4 : Ent ps (plansC L d Pl :: obj E.i_Hall x [("many", .int (Pl.length : Nat))] :: pt a (.lst (as.map V.ref)) :: eachR Pl.length (fun i => pt (as.getD i 0) (.lst ((das.getD i []).map V.ref))) :: tups L :: R) := e2.trans (ent_plans ⟨ns, das, hn, ld, dd⟩)
          clear e2
          refine We.ent e4 ?_
          ktf_call "go"
          intro bx
          refine z_binit (by omega) ⟨rfl, ?_⟩
          have eb : ((5 : Int) * ((Pl.length : Nat) : Int)).toNat = 5 * Pl.length := by omega
          rw [eb]
          ktf_call "go"
          refine we_lc (wi_L ?_)
          ktf_call "go"
          refine ⟨a, _, rfl, by ktf_call "rdl", fun d2 i acc ps => ∃ ns : List Addr, ns.length = i ∧ acc = ns.map V.ref ∧ Ent ps (pt d2 (.lst acc) :: eachR i (fun k => memC E.i_Memory (ns.getD k 0) (Mir.MemS.new Pl.length)) :: _), fun d => ⟨[], rfl, rfl, Ent.cons eachR_zero⟩, ?_, ?_, ?_⟩
          · rintro d2 i acc ps ⟨ns, hn, rfl, e2⟩ _
            exact RdL.ent e2 (by ktf_call "rdl")
          · rintro d2 i y ex acc ps hi ⟨hy, rfl⟩ ⟨ns2, hn, rfl, e2⟩
            replace hi : i < Pl.length := by simpa [srcL, la] using hi
            have hnl : (ns2.map V.ref).length < sizeLine := by rw [List.length_map]; exact Nat.lt_of_le_of_lt (m := 1000) (by omega) (by decide)
            refine Wg.ent e2 ?_
            ktf_call "go"
            intro q
            refine z_meminit (m := Pl.length) (by omega) ⟨rfl, ?_⟩
            ktf_call "go"
            refine ⟨ns2 ++ [q], by simp [hn], by simp, ?_⟩
            have c := fun R => snocEach (F := fun q k => memC E.i_Memory q (Mir.MemS.new Pl.length)) (d := d2) (q := q) (ns := ns2) (i := i) (R := R) hn
            have em : (ns2 ++ [q]).map V.ref = ns2.map V.ref ++ [.ref q] := by simp
            rw [em] at c
            refine' Ent.trans ?y4 (c _)
            case y4 => ktf_call "ent"
          rintro d2 acc ps ⟨ms, hm, rfl, e2⟩
          have hm : ms.length = Pl.length := by simpa [srcL, la] using hm
          rw [e3] at e2
          clear e4
          refine We.ent e2 ?_
          ktf_call "go"
          refine w2_repV (by ktf_call "mem") (by omega) fun qu => ?_
          ktf_call "go"
          rename_i t6 qg t4 qo qh ql qe
          have e5 : (List.replicate ((Pl.length : Nat) : Int).toNat (0 : Int)).map V.int = natsV (List.replicate Pl.length 0) := by simp [natsV]
          rw [e5]
          refine OutP.mk' ?_ k
          have cm : ∀ R', Ent (eachR Pl.length (fun k => memC E.i_Memory (ms.getD k 0) (Mir.MemS.new Pl.length)) :: R') (eachR Pl.length (fun h => memC E.i_Memory (ms.getD h 0) ((List.replicate Pl.length (Mir.MemS.new Pl.length)).getD h (Mir.MemS.new Pl.length))) :: R') := fun R' => eachR_congr fun k hk => by
            have q1 : (List.replicate Pl.length (Mir.MemS.new Pl.length)).getD k (Mir.MemS.new Pl.length) = Mir.MemS.new Pl.length := by rw [List.getD_eq_getElem?_getD, List.getElem?_replicate, if_pos hk]; rfl
            show memC E.i_Memory (ms.getD k 0) ((List.replicate Pl.length (Mir.MemS.new Pl.length)).getD k (Mir.MemS.new Pl.length)) = _
            rw [q1]
          have cu : ∀ R', Ent R' (eachR Pl.length (fun h => underC (hiE E) L (ms.getD h 0) Pl.length ((List.replicate Pl.length V.non).getD h .non) ((List.replicate Pl.length (none : Option Mir.WorkS)).getD h none)) :: R') := fun R' => eachR_of fun k hk R2 => by
            have q1 : (List.replicate Pl.length V.non).getD k .non = .non := by rw [List.getD_eq_getElem?_getD, List.getElem?_replicate, if_pos hk]; rfl
            have q2 : (List.replicate Pl.length (none : Option Mir.WorkS)).getD k none = none := by rw [List.getD_eq_getElem?_getD, List.getElem?_replicate, if_pos hk]; rfl
            show Ent R2 (underC (hiE E) L (ms.getD k 0) Pl.length ((List.replicate Pl.length V.non).getD k .non) ((List.replicate Pl.length (none : Option Mir.WorkS)).getD k none) :: R2)
            rw [q1, q2]
            exact ent_underN
          have ce : ∀ R', Ent (pt qe (.lst []) :: R') (endedC (hiE E) L Pl.length qe [] :: R') := fun R' => (Ent.cons eachR_zero).trans (ent_ended (es := []) (as := []) rfl)
          have cp : ∀ R', Ent (pt a (.lst (as.map V.ref)) :: eachR Pl.length (fun i => pt (as.getD i 0) (.lst ((das.getD i []).map V.ref))) :: R') (plansC L a Pl :: R') := fun R' => ent_plans ⟨as, das, la, ld, dd⟩
          refine' Ent.trans ?g1 (Ent.trans (cm _) ?g2)
          case g1 => ktf_call "ent"
          refine' Ent.trans ?g3 (Ent.trans (ce _) ?g4)
          case g3 => ktf_call "ent"
          refine' Ent.trans ?g5 (Ent.trans (cp _) ?g6)
          case g5 => ktf_call "ent"
          refine Ent.trans (cu _) ?_
          refine' Ent.trans ?g7 (ent_hall (S := Mir.HallS.new Pl) ⟨d, bx, d2, qu, qg, qo, qh, ql, qe, ms, List.replicate Pl.length .non, hm, by simp; rfl⟩)
          case g7 =>
            show Ent _ (obj E.i_Hall x [("many", .int (Pl.length : Nat)), ("plans", .ref d), ("boxes", .ref bx), ("memories", .ref d2), ("underway", .ref qu), ("begins", .ref qg), ("own", .ref qo), ("hands", .ref qh), ("lent", .ref ql), ("ended", .ref qe)] ::
              plansC L d Pl :: boxC E.i_Boxes bx (List.replicate (5 * Pl.length) 0) [] :: pt d2 (.lst (ms.map V.ref)) :: eachR Pl.length (fun h => memC E.i_Memory (ms.getD h 0) ((List.replicate Pl.length (Mir.MemS.new Pl.length)).getD h (Mir.MemS.new Pl.length))) ::
              pt qu (.lst (List.replicate Pl.length .non)) :: eachR Pl.length (fun h => underC (hiE E) L (ms.getD h 0) Pl.length ((List.replicate Pl.length V.non).getD h .non) ((List.replicate Pl.length (none : Option Mir.WorkS)).getD h none)) ::
              pt qg (.lst (natsV (List.replicate Pl.length 0))) :: pt qo (.lst (natsV (List.replicate Pl.length 0))) :: pt qh (.lst []) :: pt ql (.dT []) :: endedC (hiE E) L Pl.length qe [] :: plansC L a Pl :: tups L :: R)
            ktf_call "ent") only [↓Bx.tr]
end
end
section
local macro_rules | `(tactic| ktf_call "step") => `(tactic| first
  | ((with_reducible refine' methBox ?w1 ?w2 ?w3 ?wd); (case w1 => ktf_call "mem"); (case w2 => exact rfl); (case w3 => decide +kernel))
  | ((with_reducible refine' fldG_box ?w1 fun _ _ _ _ => ?wd); (case w1 => ktf_call "pick"))
  | ((with_reducible refine' fldS_box ?w1 fun _ _ _ _ => ?wd); (case w1 => ktf_call "pick"))
  | ((with_reducible refine' z_bneed ?w1 ?w2 ?wd); (case w1 => ktf_call "pick"); (case w2 => first | assumption | ktf_call "lens")))
local macro_rules | `(tactic| ktf_call "step") => `(tactic| first
  | ((with_reducible refine' meth_scanC ?w1 ?w2 ?w3 ?wd); (case w1 => ktf_call "mem"); (case w2 => exact rfl); (case w3 => decide +kernel))
  | ((with_reducible refine' fldG_scanC ?w1 fun _ _ _ _ => ?wd); (case w1 => ktf_call "pick"))
  | ((with_reducible refine' fldG_memC ?w1 fun _ _ _ _ => ?wd); (case w1 => ktf_call "pick"))
  | ((with_reducible refine' fldS_scanC ?w1 fun _ _ _ _ => ?wd); (case w1 => ktf_call "pick"))
  | ((with_reducible refine' fldS_memC ?w1 fun _ _ _ _ => ?wd); (case w1 => ktf_call "pick"))
  | ((with_reducible refine' z_btake ?w1 ?w2 ?w3 ?wd); (case w1 => ktf_call "pick"); (case w2 => first | assumption | ktf_call "lens"); (case w3 => first | assumption | ktf_call "lens"))
  | ((with_reducible refine' z_bput ?w1 ?w2 ?w3 ?wd); (case w1 => ktf_call "pick"); (case w2 => first | assumption | ktf_call "lens"); (case w3 => first | assumption | ktf_call "lens"))
  | ((with_reducible refine' dinMv ?w1 ?wd); (case w1 => ktf_call "mem"))
  | ((with_reducible refine' rdl_nats ?w1); (case w1 => ktf_call "rdl"))
  | ((with_reducible refine' w2_eqNats ?w1 ?w2 ?wd); (case w1 => ktf_call "rdl"); (case w2 => ktf_call "rdl")))
local macro_rules | `(tactic| ktf_call "step") => `(tactic| first
  | ((with_reducible refine' z_cellof ?w1 ?w2 ?wd); (case w1 => assumption); (case w2 => assumption))
  | (with_reducible refine z_scaninit ?_))
local macro_rules | `(tactic| ktf_call "step") => `(tactic| first
  | ((with_reducible refine' w2_ixD ?w1 ?wd); (case w1 => assumption)))
local macro_rules | `(tactic| ktf_call "rdf") => `(tactic| first | with_reducible assumption | ((with_reducible refine' rdf_obj ?w1 ?w2 ?w3); (case w1 => ktf_call "mem"); (case w2 => exact rfl); (case w3 => ktf_call "mem")))
local macro_rules | `(tactic| ktf_call "step") => `(tactic| first
  | ((with_reducible refine' z_needhand ?w1 ?w2 ?wd); (case w1 => ktf_call "rdf"); (case w2 => assumption)))
section
variable {P : Program} {w : World} {K : PySem.W.Frag} {mg : Str → Option Value} {base : Heap}
theorem Wa.ent {ta : TA} {σ : L2.St} {ps ps' : List HP} {Φ : List V → List HP → Prop} (e : Ent ps ps') (h : Wa ta σ ps' Φ) : Wa ta σ ps Φ := fun H Q s k => h H Q (e H s) k
theorem meth_hall {I : HI K} {x : Addr} {L : Pool} {S : Mir.HallS} {ps : List HP} {f : Str} {k : List HP → Prop} (m : hallC I x L S ∈ ps) (p : (["many", "plans", "boxes", "memories", "underway", "begins", "own", "hands", "lent", "ended"] : List Str) = n_Hall) (n : f ∉ n_Hall) (q : k ps) : MethG I.Hall.C f (.ref x) ps k :=
  methC m (fun H R s => by
    obtain ⟨z, s⟩ := opn_hall H s
    obtain ⟨dx, e⟩ := s.obj (List.mem_cons_self ..)
    exact ⟨dx, _, e, lookup_not fun y => n (by rw [← p]; exact y)⟩) q
end
end
section
local macro_rules | `(tactic| ktf_call "step") => `(tactic| first
  | ((with_reducible refine' methBox ?w1 ?w2 ?w3 ?wd); (case w1 => ktf_call "mem"); (case w2 => exact rfl); (case w3 => decide +kernel))
  | ((with_reducible refine' fldG_box ?w1 fun _ _ _ _ => ?wd); (case w1 => ktf_call "pick"))
  | ((with_reducible refine' fldS_box ?w1 fun _ _ _ _ => ?wd); (case w1 => ktf_call "pick"))
  | ((with_reducible refine' z_bneed ?w1 ?w2 ?wd); (case w1 => ktf_call "pick"); (case w2 => first | assumption | ktf_call "lens")))
local macro_rules | `(tactic| ktf_call "step") => `(tactic| first
  | ((with_reducible refine' meth_scanC ?w1 ?w2 ?w3 ?wd); (case w1 => ktf_call "mem"); (case w2 => exact rfl); (case w3 => decide +kernel))
  | ((with_reducible refine' fldG_scanC ?w1 fun _ _ _ _ => ?wd); (case w1 => ktf_call "pick"))
  | ((with_reducible refine' fldG_memC ?w1 fun _ _ _ _ => ?wd); (case w1 => ktf_call "pick"))
  | ((with_reducible refine' fldS_scanC ?w1 fun _ _ _ _ => ?wd); (case w1 => ktf_call "pick"))
  | ((with_reducible refine' fldS_memC ?w1 fun _ _ _ _ => ?wd); (case w1 => ktf_call "pick"))
  | ((with_reducible refine' z_btake ?w1 ?w2 ?w3 ?wd); (case w1 => ktf_call "pick"); (case w2 => first | assumption | ktf_call "lens"); (case w3 => first | assumption | ktf_call "lens"))
  | ((with_reducible refine' z_bput ?w1 ?w2 ?w3 ?wd); (case w1 => ktf_call "pick"); (case w2 => first | assumption | ktf_call "lens"); (case w3 => first | assumption | ktf_call "lens"))
  | ((with_reducible refine' dinMv ?w1 ?wd); (case w1 => ktf_call "mem"))
  | ((with_reducible refine' rdl_nats ?w1); (case w1 => ktf_call "rdl"))
  | ((with_reducible refine' w2_eqNats ?w1 ?w2 ?wd); (case w1 => ktf_call "rdl"); (case w2 => ktf_call "rdl")))
local macro_rules | `(tactic| ktf_call "step") => `(tactic| first
  | ((with_reducible refine' z_cellof ?w1 ?w2 ?wd); (case w1 => assumption); (case w2 => assumption))
  | (with_reducible refine z_scaninit ?_))
local macro_rules | `(tactic| ktf_call "step") => `(tactic| first
  | ((with_reducible refine' w2_ixD ?w1 ?wd); (case w1 => assumption)))
local macro_rules | `(tactic| ktf_call "rdf") => `(tactic| first | with_reducible assumption | ((with_reducible refine' rdf_obj ?w1 ?w2 ?w3); (case w1 => ktf_call "mem"); (case w2 => exact rfl); (case w3 => ktf_call "mem")))
local macro_rules | `(tactic| ktf_call "step") => `(tactic| first
  | ((with_reducible refine' z_needhand ?w1 ?w2 ?wd); (case w1 => ktf_call "rdf"); (case w2 => assumption)))
/-- what a record tells -/
abbrev Core := Int × Deed × Int × Int × Ans
def Rec.core (r : Rec) : Core := (r.hand, r.deed, r.b, r.e, r.an)
def coreD (d : Mir.DoneS) : Core := ((d.work.hand : Int), d.work.deed, (d.b : Int), (d.e : Int), d.work.ans)
def tvals (t : Nat × Touch) : List V := .int (t.1 : Int) :: t.2.vals
def TIn (L : Pool) (as : List Addr) (ts : List (Nat × Touch)) : Prop := as.length = ts.length ∧ ∀ (i : Nat) (a : Addr) (t : Nat × Touch), as[i]? = some a → ts[i]? = some t → (a, tvals t) ∈ L
theorem opn_done {K : PySem.W.Frag} {I : HI K} {L : Pool} {many : Nat} {ea : Addr} {d : Mir.DoneS} {R : List HP} : Opn (doneC I L many ea d :: R) fun z : { z : Addr × Addr × Addr × V // (z.2.1, d.work.deed.vals) ∈ L ∧ AnsR L z.2.2.2 d.work.ans } =>
    obj I.Done ea [("work", .ref z.1.1), ("begin", .int d.b), ("end", .int d.e)] :: workC I z.1.1 z.1.2.1 z.1.2.2.1 many z.1.2.2.2 d.work :: R := fun H s => by
  unfold doneC at s
  obtain ⟨z, s⟩ := Sat.ex.mp s
  obtain ⟨e, s⟩ := Sat.pur.mp (Sat.grp.mp s)
  exact ⟨⟨z, e⟩, s⟩
theorem workR_in {K : PySem.W.Frag} {I : HI K} {a dA mem : Addr} {many : Nat} {av : V} {w : Mir.WorkS} {ps : List HP} (m : workC I a dA mem many av w ∈ ps) : WorkR K ps a dA av w := WorkR.ent (Ent.memP m) workR
theorem TIn.nil {L : Pool} : TIn L [] [] := ⟨rfl, fun i a t h => by simp at h⟩
theorem TIn.snoc {L L' : Pool} {as : List Addr} {ts : List (Nat × Touch)} {a : Addr} {t : Nat × Touch} (h : TIn L as ts) (s : ∀ y ∈ L, y ∈ L') (m : (a, tvals t) ∈ L') : TIn L' (as ++ [a]) (ts ++ [t]) := by
  refine ⟨by simp [h.1], fun i b u hb hu => ?_⟩
  have hl := h.1
  by_cases hi : i < as.length
  · rw [List.getElem?_append_left hi] at hb
    rw [List.getElem?_append_left (by omega)] at hu
    exact s _ (h.2 i b u hb hu)
  · rw [List.getElem?_append_right (by omega)] at hb hu
    rw [hl] at hb
    cases hk : i - ts.length with
    | zero => rw [hk] at hb hu; simp at hb hu; subst hb; subst hu; exact m
    | succ n => rw [hk] at hb; simp at hb
local macro_rules | `(tactic| ktf_call "step") => `(tactic| first
  | ((with_reducible refine' fldG_ro (WorkR.hand (workR_in ?w1)) ?wd); (case w1 => ktf_call "mem"))
  | ((with_reducible refine' fldG_ro (WorkR.deed (workR_in ?w1)) ?wd); (case w1 => ktf_call "mem"))
  | ((with_reducible refine' fldG_ro (WorkR.answer (workR_in ?w1)) ?wd); (case w1 => ktf_call "mem"))
  | ((with_reducible refine' fldG_ro (WorkR.moment (workR_in ?w1)) ?wd); (case w1 => ktf_call "mem"))
  | ((with_reducible refine' fldG_ro (WorkR.stamp (workR_in ?w1)) ?wd); (case w1 => ktf_call "mem"))
  | ((with_reducible refine' fldG_ro (WorkR.giver (workR_in ?w1)) ?wd); (case w1 => ktf_call "mem"))
  | ((with_reducible refine' fldG_ro (WorkR.nth (workR_in ?w1)) ?wd); (case w1 => ktf_call "mem")))
section
variable {P : Program} {w : World} {K : PySem.W.Frag} {mg : Str → Option Value} {base : Heap}
def S_records (E : Env K mg) : SP := fun vs ps Φ => ∃ (x : Addr) (L : Pool) (S : Mir.HallS) (R : List HP), vs = [.ref x] ∧ Ent ps (hallC (hiE E) x L S :: tups L :: R) ∧ S.ended.length ≤ 90000 ∧
  ∀ p L' as rs, (∀ y ∈ L, y ∈ L') → RecsIn L' as rs → rs.map Rec.core = S.ended.map coreD → Φ (.ref p) (pt p (.lst (as.map V.ref)) :: hallC (hiE E) x L' S :: tups L' :: R)
theorem z_records {E : Env K mg} {ps R : List HP} {Φ : V → List HP → Prop} {x : Addr} {L : Pool} {S : Mir.HallS} (e : Ent ps (hallC (hiE E) x L S :: tups L :: R)) (h : S.ended.length ≤ 90000)
    (k : ∀ p L' as rs, (∀ y ∈ L, y ∈ L') → RecsIn L' as rs → rs.map Rec.core = S.ended.map coreD → Φ (.ref p) (pt p (.lst (as.map V.ref)) :: hallC (hiE E) x L' S :: tups L' :: R)) : S_records E [.ref x] ps Φ := ⟨x, L, S, R, rfl, e, h, k⟩
theorem ok_Hall_records (E : Env K mg) : FnOk P w K mg base CX0 1 E.f_Hall_records E.fd_Hall_records ["self"] (spS (S_records E)) := by
  refine Bx.out ?_
  simp (disch := with_unfolding_all
      refine okS E.F_Hall_records sc_Hall_records (fun vs ps Φ h => ?_) (fun cdv A outer s H E0 hr => ?_)
      · obtain ⟨x, L, S, R, rfl, _⟩ := h; rfl
      · refine ⟨_, ((pss_cons (ps_set (i := 1) sc_Hall_records.nd rfl (by first | exact Or.inl rfl | exact Or.inr rfl) (pe_lst pa_nil))
     (pss_cons (ps_for PassesOwn.never rfl (pi_list (pe_fld (pv 0) rfl)) (pg_name (i := 2) sc_Hall_records.nd rfl (by first | exact Or.inl rfl | exact Or.inr rfl)) (pss_one (ps_expr (pe_bm PySem.F.plainAttrs_list PySem.F.slot_list_append PySem.F.type_list_append mt_append (pv 1) (pa_cons (pe_tup (pa_cons (pe_fld (pe_fld (pv 2) rfl) rfl) (pa_cons (pe_fld (pe_fld (pv 2) rfl) rfl) (pa_cons (pe_fld (pv 2) rfl) (pa_cons (pe_fld (pv 2) rfl) (pa_cons (pe_fld (pe_fld (pv 2) rfl) rfl) pa_nil)))))) pa_nil)))))
     (pss_one (ps_ret (pv 1)))))), fun vs ps Φ h => ?_⟩
        obtain ⟨x, L, S, R, rfl, pk, hl, k⟩ := h
        try dsimp only [cxOf]
        show Ws _ _ _ _ _ [_, _, _] _
        refine Ws.ent pk (Ws.opn opn_hall fun z => ?_)
        obtain ⟨qp, qb, qm, qu, qg, qo, qh, ql, qe, ms, us, zlm, zlu⟩ := z
        dsimp only
        refine Ws.ent (ps' := endedC (hiE E) L S.many qe S.ended :: _) (by ktf_call "ent") (Ws.opn opn_ended fun z => ?_)
        obtain ⟨es, hes⟩ := z
        dsimp only
        generalize hfe : (fun i => doneC (hiE E) L S.many (es.getD i 0) (S.ended.getD i default)) = fe
        have efe : ∀ i, fe i = doneC (hiE E) L S.many (es.getD i 0) (S.ended.getD i default) := fun i => by rw [← hfe]
        ktf_call "go"
        rename_i q
        refine ws_for (wi_L ?_)
        ktf_call "go"
        refine ⟨qe, _, rfl, by ktf_call "rdl", fun i σ ps => ∃ v2 L2 as rs, σ = [some (.ref x), some (.ref q), v2] ∧ (∀ y ∈ L, y ∈ L2) ∧ RecsIn L2 as rs ∧ rs.map Rec.core = (S.ended.take i).map coreD ∧ Ent ps (pt q (.lst (as.map V.ref)) :: tups L2 :: pt qe (.lst (es.map V.ref)) :: eachR S.ended.length fe ::
          obj E.i_Hall x [("many", .int S.many), ("plans", .ref qp), ("boxes", .ref qb), ("memories", .ref qm), ("underway", .ref qu), ("begins", .ref qg), ("own", .ref qo), ("hands", .ref qh), ("lent", .ref ql), ("ended", .ref qe)] ::
          plansC L qp S.plans :: boxC E.i_Boxes qb S.boxes S.log :: pt qm (.lst (ms.map V.ref)) :: eachR S.many (fun h => memC E.i_Memory (ms.getD h 0) (S.mems.getD h (.new S.many))) ::
          pt qu (.lst us) :: eachR S.many (fun h => underC (hiE E) L (ms.getD h 0) S.many (us.getD h .non) (S.underway.getD h none)) ::
          pt qg (.lst (natsV S.begins)) :: pt qo (.lst (natsV S.own)) :: pt qh (.lst (natsV S.hands)) :: pt ql (.dT (lentK S.lent)) :: R), ⟨none, L, [], [], rfl, fun _ h => h, RecsIn.nil, rfl, ?_⟩, ?_, ?_, ?_⟩
        · show Ent _ (pt q (.lst []) :: _)
          ktf_call "ent"
        · rintro i σ ps ⟨v2, L2, as, rs, rfl, hL, hrs, hc, e⟩ _
          exact RdL.ent e (by ktf_call "rdl")
        · rintro i y ex σ ps hi ⟨hy, rfl⟩ ⟨v2, L2, as, rs, rfl, hL, hrs, hc, e⟩
          replace hi : i < S.ended.length := by simpa [srcL, hes] using hi
          have hy2 : y = .ref (es.getD i 0) := by
            rw [List.getElem?_map, getD_lt (d := 0) (by omega)] at hy
            exact (Option.some.inj hy).symm
          subst hy2
          have hal : (as.map V.ref).length < sizeLine := by
            rw [List.length_map, hrs.1]
            have := congrArg List.length hc
            simp only [List.length_map, List.length_take] at this
            exact Nat.lt_of_le_of_lt (m := 90000) (by omega) (by decide)
          refine Wg.ent e ?_
          refine Wg.ent (each_at (f := fe) (i := i) (by ktf_call "pick") hi) ?_
          rw [efe i]
          have hdi : S.ended[i]? = some (S.ended.getD i default) := getD_lt hi
          generalize hd : S.ended.getD i default = d at hdi ⊢
          refine Wg.opn (Opn.ent (ps' := doneC (hiE E) L S.many (es.getD i 0) d :: _) (by ktf_call "ent") opn_done) fun z => ?_
          obtain ⟨⟨wa, dA, mem, av⟩, hdA, hav⟩ := z
          dsimp only at hdA hav ⊢
          ktf_call "go"
          rename_i p
          have back : ∀ R', Ent (obj E.i_Done (es.getD i 0) [("work", .ref wa), ("begin", .int d.b), ("end", .int d.e)] :: workC (hiE E) wa dA mem S.many av d.work :: eachR S.ended.length (hole fe i) :: R') (eachR S.ended.length fe :: R') := fun R' => by
            refine Ent.trans (ent_done (I := hiE E) (L := L) (many := S.many) hdA hav) ?_
            have c := eachR_close (R := R') (f := fe) (g := fe) hi (fun _ _ _ => rfl)
            rw [efe i, hd] at c
            exact c
          refine ⟨_, L2 ++ [(p, [.int d.work.hand, .ref dA, .int d.b, .int d.e, av])], as ++ [p], rs ++ [⟨d.work.hand, dA, d.work.deed, d.b, d.e, av, d.work.ans⟩], rfl, fun y hy => List.mem_append_left _ (hL y hy), ?_, ?_, ?_⟩
          · refine (hrs.mono more_snoc).snoc ⟨mem_snoc, more_snoc _ (hL _ hdA), (hav.mono fun y hy => more_snoc _ (hL y hy))⟩
          · rw [List.map_append, hc, List.take_succ, hdi]
            simp [coreD, Rec.core]
          · have em : (as ++ [p]).map V.ref = as.map V.ref ++ [.ref p] := by simp
            rw [em]
            refine' Ent.trans ?y1 (Ent.trans (back _) ?y2)
            case y1 => ktf_call "ent"
            refine' Ent.trans ?y3 (Ent.trans (tups_snoc (L := L2)) ?y4)
            case y3 => ktf_call "ent"
            ktf_call "ent"
        · rintro σ ps ⟨v2, L2, as, rs, rfl, hL, hrs, hc, e⟩
          have e3 : (srcL K qe (es.map V.ref)).n = S.ended.length := by simp [srcL, hes]
          rw [e3, List.take_length] at hc
          refine Ws.ent e ?_
          ktf_call "go"
          subst hfe
          refine OutP.mk' ?_ (k q L2 as rs hL hrs hc)
          refine' Ent.trans ?z1 (Ent.trans (ent_ended (I := hiE E) (q := qe) (L := L) (many := S.many) (es := S.ended) hes) ?z2)
          case z1 => ktf_call "ent"
          refine' Ent.trans ?z3 (Ent.trans (ent_hall (I := hiE E) (x := x) (L := L) (S := S) ⟨qp, qb, qm, qu, qg, qo, qh, ql, qe, ms, us, zlm, zlu⟩) ?z4)
          case z3 => ktf_call "ent"
          refine Ent.trans (hall_mono hL) ?_
          ktf_call "ent") only [↓Bx.tr]
end
end
section
def S_cell (K : PySem.W.Frag) : SP := fun vs ps Φ => ∃ (a : Addr) (ns : List Int) (k : Int), vs = [.ref a, .int k] ∧ 0 ≤ k ∧ RdL K ps a (ns.map V.int) ∧ ns.length ≤ 1000 ∧ Φ (.int (ns.getD k.toNat 0)) ps
def S_dice (K : PySem.W.Frag) : SP := fun vs ps Φ => ∃ (a : Addr) (ns : List Int) (k : Int), vs = [.ref a, .int k] ∧ 0 ≤ k ∧ RdL K ps a (ns.map V.int) ∧ ns.length ≤ 1000 ∧ ∀ p, Φ (.ref p) (dice p a :: ps)
def S_off (K : PySem.W.Frag) : SP := fun vs ps Φ => ∃ (p a : Addr) (ns : List Int) (most : Int) (R : List HP), vs = [.ref p, .int most] ∧ Pick (dice p a) ps R ∧ RdL K R a (ns.map V.int) ∧ ns.length ≤ 1000 ∧ (0 < most ∧ most < 1073741824) ∧ ∀ r : Nat, (r : Int) < most → Φ (.int r) (dice p a :: R)
theorem s_cell {K : PySem.W.Frag} {ps : List HP} {Φ : V → List HP → Prop} {a : Addr} {ns : List Int} {k : Int} (rd : RdL K ps a (ns.map V.int)) (hl : ns.length ≤ 1000) (h0 : 0 ≤ k) (q : Φ (.int (ns.getD k.toNat 0)) ps) : S_cell K [.ref a, .int k] ps Φ := ⟨a, ns, k, rfl, h0, rd, hl, q⟩
theorem s_dice {K : PySem.W.Frag} {ps : List HP} {Φ : V → List HP → Prop} {a : Addr} {ns : List Int} {k : Int} (rd : RdL K ps a (ns.map V.int)) (hl : ns.length ≤ 1000) (h0 : 0 ≤ k) (q : ∀ p, Φ (.ref p) (dice p a :: ps)) : S_dice K [.ref a, .int k] ps Φ := ⟨a, ns, k, rfl, h0, rd, hl, q⟩
theorem s_off {K : PySem.W.Frag} {ps R : List HP} {Φ : V → List HP → Prop} {p a : Addr} {ns : List Int} {most : Int} (pk : Pick (dice p a) ps R) (rd : RdL K R a (ns.map V.int)) (hl : ns.length ≤ 1000) (h0 : 0 < most ∧ most < 1073741824) (q : ∀ r : Nat, (r : Int) < most → Φ (.int r) (dice p a :: R)) : S_off K [.ref p, .int most] ps Φ := ⟨p, a, ns, most, R, rfl, pk, rd, hl, h0, q⟩
local macro_rules | `(tactic| ktf_call "step") => `(tactic| first
  | ((with_reducible refine' s_cell ?w1 ?w2 ?w3 ?wd); (case w1 => ktf_call "rdl"); (case w2 => assumption); (case w3 => omega))
  | ((with_reducible refine' s_dice ?w1 ?w2 ?w3 fun _ => ?wd); (case w1 => ktf_call "rdl"); (case w2 => assumption); (case w3 => omega))
  | ((with_reducible refine' s_off ?w0 ?w1 ?w2 ?w3 fun r hr => ?wd); (case w0 => ktf_call "pick"); (case w1 => ktf_call "rdl"); (case w2 => assumption); (case w3 => ktf_call "lens")))
section
variable {P : Program} {w : World} {K : PySem.W.Frag} {mg : Str → Option Value} {base : Heap}
theorem ok__law_cell (E : Env K mg) : FnOk P w K mg base CX0 1 E.f__law_cell E.fd__law_cell ["_law_script", "_law_k"] (spS (S_cell K)) := by
  refine Bx.out ?_
  simp (disch := with_unfolding_all
      refine okS E.F__law_cell sc__law_cell (fun vs ps Φ h => ?_) (fun cdv A outer s H E0 hr => ?_)
      · obtain ⟨a, ns, k, rfl, _⟩ := h; rfl
      · refine ⟨_, ((pss_cons (ps_if (pt_cmpR op_lt (pv 1) (pe_callB cr_len (by rfl) E.bn_len (by decide +kernel) (pa_cons (pv 0) pa_nil)) (nomark _)) (pss_one (ps_ret (pe_ix ix_list (pv 0) (pv 1) (fun _ _ => rfl)))) pss_nil)
     (pss_one (ps_ret pe_int)))), fun vs ps Φ h => ?_⟩
        obtain ⟨a, ns, z, rfl, hz, rd, hl, q⟩ := h
        obtain ⟨k, rfl⟩ : ∃ k : Nat, z = k := ⟨z.toNat, (Int.toNat_of_nonneg hz).symm⟩
        rw [Int.toNat_natCast] at q
        try dsimp only [cxOf]
        show Ws _ _ _ _ _ [_, _] _
        ktf_call "go"
        refine iteD (fun h => ?_) (fun h => ?_)
        · rw [List.length_map] at h
          have hk : k < ns.length := by omega
          ktf_call "go"
          rw [Int.toNat_natCast]
          exact .here q
        · rw [List.length_map] at h
          ktf_call "go"
          have e : ns.getD k 0 = 0 := getD_ge (by omega)
          rw [e] at q
          exact .here q) only [↓Bx.tr]
end
section
variable {P : Program} {w : World} {K : PySem.W.Frag} {mg : Str → Option Value} {base : Heap}
theorem ok__law_dice (E : Env K mg) : FnOk P w K mg base CX0 2 E.f__law_dice E.fd__law_dice ["_law_script", "_law_k"] (spS (S_dice K)) := by
  refine Bx.out ?_
  simp (disch := with_unfolding_all
      refine okS E.F__law_dice sc__law_dice (fun vs ps Φ h => ?_) (fun cdv A outer s H E0 hr => ?_)
      · obtain ⟨a, ns, k, rfl, _⟩ := h; rfl
      · refine ⟨_, ((pss_cons (ps_set (i := 2) sc__law_dice.nd rfl (by first | exact Or.inl rfl | exact Or.inr rfl) (pe_callB cr_abs (by rfl) E.bn_abs (by decide +kernel) (pa_cons (pe_call (ok__law_cell E) (hr.mono (by decide)) rfl E.g__law_cell E.k__law_cell E.b__law_cell .nil pass0 (pa_cons (pv 0) (pa_cons (pv 1) pa_nil))) pa_nil)))
     (pss_one (ps_ret (pe_lst (pa_cons (pe_op op_mod (pv 2) pe_int) (pa_cons (pv 0) (pa_cons (pe_op op_add (pv 1) pe_int) (pa_cons (pe_op op_mul (pe_callTy cr_int1 (by rfl) E.bn_int (by decide +kernel) (pa_cons (pe_cmpR op_ge (pv 2) (pe_op op_pow pe_int pe_int) (nomark _)) pa_nil)) (pv 2)) pa_nil))))))))), fun vs ps Φ h => ?_⟩
        obtain ⟨a, ns, z, rfl, hz, rd, hl, q⟩ := h
        obtain ⟨k, rfl⟩ : ∃ k : Nat, z = k := ⟨z.toNat, (Int.toNat_of_nonneg hz).symm⟩
        try dsimp only [cxOf]
        show Ws _ _ _ _ _ [_, _, _] _
        ktf_call "go"
        exact OutP.mk' Ent.dice (q _)) only [↓Bx.tr]
theorem ok__law_off (E : Env K mg) : FnOk P w K mg base CX0 2 E.f__law_off E.fd__law_off ["_law_d", "_law_most"] (spS (S_off K)) := by
  refine Bx.out ?_
  simp (disch := with_unfolding_all
      refine okS E.F__law_off sc__law_off (fun vs ps Φ h => ?_) (fun cdv A outer s H E0 hr => ?_)
      · obtain ⟨p, a, ns, most, R, rfl, _⟩ := h; rfl
      · refine ⟨_, ((pss_cons (ps_if (pt_cmpR op_gt (pe_ix ix_list (pv 0) pe_int (fun _ _ => rfl)) pe_int (nomark _)) (pss_cons (ps_set (i := 3) sc__law_off.nd rfl (by first | exact Or.inl rfl | exact Or.inr rfl) (pe_op op_mod (pe_ix ix_list (pv 0) pe_int (fun _ _ => rfl)) (pv 1)))
     (pss_cons (ps_asg (pe_op op_fdiv (pe_ix ix_list (pv 0) pe_int (fun _ _ => rfl)) (pv 1)) (pg_sub (pv 0) pe_int set_list))
     (pss_one (ps_ret (pv 3))))) pss_nil)
     (pss_cons (ps_set (i := 2) sc__law_off.nd rfl (by first | exact Or.inl rfl | exact Or.inr rfl) (pe_callB cr_abs (by rfl) E.bn_abs (by decide +kernel) (pa_cons (pe_call (ok__law_cell E) (hr.mono (by decide)) rfl E.g__law_cell E.k__law_cell E.b__law_cell .nil pass0 (pa_cons (pe_ix ix_list (pv 0) pe_int (fun _ _ => rfl)) (pa_cons (pe_op op_mod (pe_ix ix_list (pv 0) pe_int (fun _ _ => rfl)) (pe_callB (cr_max2 rfl) (by rfl) E.bn_max (by decide +kernel) (pa_cons pe_int (pa_cons (pe_callB cr_len (by rfl) E.bn_len (by decide +kernel) (pa_cons (pe_ix ix_list (pv 0) pe_int (fun _ _ => rfl)) pa_nil)) pa_nil)))) pa_nil))) pa_nil)))
     (pss_cons (ps_asg (pe_op op_add (pe_ix ix_list (pv 0) pe_int (fun _ _ => rfl)) pe_int) (pg_sub (pv 0) pe_int set_list))
     (pss_cons (ps_asg (pe_op op_mod (pe_op op_add (pe_op op_add (pe_op op_mul (pe_ix ix_list (pv 0) pe_int (fun _ _ => rfl)) pe_int) pe_int) (pv 2)) pe_int) (pg_sub (pv 0) pe_int set_list))
     (pss_one (ps_ret (pe_op op_mod (pe_op op_fdiv (pe_ix ix_list (pv 0) pe_int (fun _ _ => rfl)) pe_int) (pv 1))))))))), fun vs ps Φ h => ?_⟩
        obtain ⟨p, a, ns, most, R, rfl, pk, rd, hl, hm, q⟩ := h
        try dsimp only [cxOf]
        show Ws _ _ _ _ _ [_, _, _, _] _
        refine Ws.ent (Ent.perm pk.perm) (Ws.dice fun x j b => ?_)
        ktf_call "go"
        refine iteD (fun hb => ?_) (fun hb => ?_)
        · obtain ⟨r, e1, e2⟩ := mod_nat (i := b) hm.1
          ktf_call "go"
          rw [e1]
          ktf_call "go"
          refine w2_I hm ?_
          ktf_call "go"
          exact OutP.mk' Ent.dice (q r e2)
        · obtain ⟨r, e1, e2⟩ := mod_nat (i := j) (m := max 1 (ns.length : Int)) (by omega)
          ktf_call "go"
          rw [List.length_map, e1]
          ktf_call "go"
          generalize hz : ((x * 48271 + 11 + ((ns.getD (Int.toNat r) 0).natAbs : Int)) % 2147483647) / 64 = z
          obtain ⟨t, e3, e4⟩ := mod_nat (i := z) hm.1
          rw [e3]
          exact OutP.mk' Ent.dice (q t e4)) only [↓Bx.tr]
end
def S_ldeed (K : PySem.W.Frag) : SP := fun vs ps Φ => ∃ (p a : Addr) (ns : List Int) (R : List HP) (wd : Wd), vs = [.ref p, .str wd.str] ∧ Pick (dice p a) ps R ∧ RdL K R a (ns.map V.int) ∧ ns.length ≤ 1000 ∧ ∀ (q : Addr) (d : Deed), d.wd = wd → d.ok → Φ (.ref q) (pt q (.tup d.vals) :: dice p a :: R)
section
variable {P : Program} {w : World} {K : PySem.W.Frag} {mg : Str → Option Value} {base : Heap}
theorem ok__law_deed (E : Env K mg) : FnOk P w K mg base CX0 3 E.f__law_deed E.fd__law_deed ["_law_d", "_law_word"] (spS (S_ldeed K)) := by
  refine Bx.out ?_
  simp (disch := with_unfolding_all
      refine okS E.F__law_deed sc__law_deed (fun vs ps Φ h => ?_) (fun cdv A outer s H E0 hr => ?_)
      · obtain ⟨p, a, ns, R, wd, rfl, _⟩ := h; rfl
      · refine ⟨_, ((pss_cons (ps_if (pt_cmpR op_in_seq (pv 1) (pe_lst (pa_cons pe_str (pa_cons pe_str (pa_cons pe_str (pa_cons pe_str pa_nil))))) (by rfl)) (pss_one (ps_ret (pe_tup (pa_cons (pv 1) (pa_cons (pe_ix ix_list (pe_lst (pa_cons (pe_call (ok__law_off E) (hr.mono (by decide)) rfl E.g__law_off E.k__law_off E.b__law_off .nil pass0 (pa_cons (pv 0) (pa_cons pe_int pa_nil))) (pa_cons (pe_call (ok__law_off E) (hr.mono (by decide)) rfl E.g__law_off E.k__law_off E.b__law_off .nil pass0 (pa_cons (pv 0) (pa_cons pe_int pa_nil))) pa_nil))) (pe_call (ok__law_off E) (hr.mono (by decide)) rfl E.g__law_off E.k__law_off E.b__law_off .nil pass0 (pa_cons (pv 0) (pa_cons pe_int pa_nil))) (fun _ _ => rfl)) pa_nil))))) pss_nil)
     (pss_one (ps_ret (pe_tup (pa_cons (pv 1) pa_nil)))))), fun vs ps Φ h => ?_⟩
        obtain ⟨p, a, ns, R, wd, rfl, pk, rd, hl, q⟩ := h
        try dsimp only [cxOf]
        show Ws _ _ _ _ _ [_, _] _
        refine Ws.ent (Ent.perm pk.perm) ?_
        cases wd
        case one => ktf_call "go"; exact OutP.mk' (Ent.keep (.cons .hd (by ktf_call "keep"))) (q _ .one rfl trivial)
        case count => ktf_call "go"; exact OutP.mk' (Ent.keep (.cons .hd (by ktf_call "keep"))) (q _ .count rfl trivial)
        case look => ktf_call "go"; exact OutP.mk' (Ent.keep (.cons .hd (by ktf_call "keep"))) (q _ .look rfl trivial)
        case sum => ktf_call "go"; exact OutP.mk' (Ent.keep (.cons .hd (by ktf_call "keep"))) (q _ .sum rfl trivial)
        case top => ktf_call "go"; exact OutP.mk' (Ent.keep (.cons .hd (by ktf_call "keep"))) (q _ .top rfl trivial)
        case take => ktf_call "go"; exact OutP.mk' (Ent.keep (.cons .hd (by ktf_call "keep"))) (q _ .take rfl trivial)
        case set =>
          ktf_call "go"
          rename_i r1 h1 r2 h2 _ r h3
          obtain rfl | rfl : r = 0 ∨ r = 1 := by omega
          · ktf_call "go"
            exact OutP.mk' (Ent.keep (.cons .hd (by ktf_call "keep"))) (q _ (.set r1) rfl (by show r1 < 1000; omega))
          · ktf_call "go"
            exact OutP.mk' (Ent.keep (.cons .hd (by ktf_call "keep"))) (q _ (.set r2) rfl (by show r2 < 1000; omega))
        case add =>
          ktf_call "go"
          rename_i r1 h1 r2 h2 _ r h3
          obtain rfl | rfl : r = 0 ∨ r = 1 := by omega
          · ktf_call "go"
            exact OutP.mk' (Ent.keep (.cons .hd (by ktf_call "keep"))) (q _ (.add r1) rfl (by show r1 < 1000; omega))
          · ktf_call "go"
            exact OutP.mk' (Ent.keep (.cons .hd (by ktf_call "keep"))) (q _ (.add r2) rfl (by show r2 < 1000; omega))
        case raise =>
          ktf_call "go"
          rename_i r1 h1 r2 h2 _ r h3
          obtain rfl | rfl : r = 0 ∨ r = 1 := by omega
          · ktf_call "go"
            exact OutP.mk' (Ent.keep (.cons .hd (by ktf_call "keep"))) (q _ (.raise r1) rfl (by show r1 < 1000; omega))
          · ktf_call "go"
            exact OutP.mk' (Ent.keep (.cons .hd (by ktf_call "keep"))) (q _ (.raise r2) rfl (by show r2 < 1000; omega))
        case give =>
          ktf_call "go"
          rename_i r1 h1 r2 h2 _ r h3
          obtain rfl | rfl : r = 0 ∨ r = 1 := by omega
          · ktf_call "go"
            exact OutP.mk' (Ent.keep (.cons .hd (by ktf_call "keep"))) (q _ (.give r1) rfl (by show r1 < 1000; omega))
          · ktf_call "go"
            exact OutP.mk' (Ent.keep (.cons .hd (by ktf_call "keep"))) (q _ (.give r2) rfl (by show r2 < 1000; omega))) only [↓Bx.tr]
theorem s_ldeed {K : PySem.W.Frag} {ps R : List HP} {Φ : V → List HP → Prop} {p a : Addr} {ns : List Int} {wd : Wd} {z : Str} (e : z = wd.str) (pk : Pick (dice p a) ps R) (rd : RdL K R a (ns.map V.int)) (hl : ns.length ≤ 1000) (q : ∀ (q : Addr) (d : Deed), d.wd = wd → d.ok → Φ (.ref q) (pt q (.tup d.vals) :: dice p a :: R)) : S_ldeed K [.ref p, .str z] ps Φ := ⟨p, a, ns, R, wd, by rw [e], pk, rd, hl, q⟩
end
end
section
local macro_rules | `(tactic| ktf_call "step") => `(tactic| first
  | ((with_reducible refine' s_cell ?w1 ?w2 ?w3 ?wd); (case w1 => ktf_call "rdl"); (case w2 => assumption); (case w3 => omega))
  | ((with_reducible refine' s_dice ?w1 ?w2 ?w3 fun _ => ?wd); (case w1 => ktf_call "rdl"); (case w2 => assumption); (case w3 => omega))
  | ((with_reducible refine' s_off ?w0 ?w1 ?w2 ?w3 fun r hr => ?wd); (case w0 => ktf_call "pick"); (case w1 => ktf_call "rdl"); (case w2 => assumption); (case w3 => ktf_call "lens")))
/-- a deed of one of some words; a take of another hand is told as a gift -/
def Allow (ws : List Wd) (h : Nat) (d : Deed) : Prop := d.ok ∧ (d = .take → h = 0) ∧ (d.wd ∈ ws ∨ (d.wd = .give ∧ Wd.take ∈ ws))
def S_lplans (K : PySem.W.Frag) : SP := fun vs ps Φ => ∃ (p a q : Addr) (ns : List Int) (ws : List Wd) (m most : Nat) (R : List HP), vs = [.ref p, .int m, .ref q, .int most] ∧ Ent ps (dice p a :: pt q (.lst (ws.map fun x => V.str x.str)) :: R) ∧ RdL K R a (ns.map V.int) ∧ ns.length ≤ 1000 ∧ ws ≠ [] ∧ ws.length ≤ 1000 ∧ m ≤ 6 ∧ most ≤ 1000 ∧
  ∀ (b : Addr) (L : Pool) (Pl : List (List Deed)), Pl.length = m → (∀ h, h < m → (Pl.getD h []).length ≤ most ∧ ∀ d ∈ Pl.getD h [], Allow ws h d) → Φ (.ref b) (plansC L b Pl :: tups L :: dice p a :: pt q (.lst (ws.map fun x => V.str x.str)) :: R)
theorem z_lplans {K : PySem.W.Frag} {ps R : List HP} {Φ : V → List HP → Prop} {p a q : Addr} {ns : List Int} {ws : List Wd} {m most : Nat} (e : Ent ps (dice p a :: pt q (.lst (ws.map fun x => V.str x.str)) :: R)) (rd : RdL K R a (ns.map V.int)) (hl : ns.length ≤ 1000) (hw : ws ≠ []) (hw2 : ws.length ≤ 1000) (hm : m ≤ 6) (ho : most ≤ 1000)
    (k : ∀ (b : Addr) (L : Pool) (Pl : List (List Deed)), Pl.length = m → (∀ h, h < m → (Pl.getD h []).length ≤ most ∧ ∀ d ∈ Pl.getD h [], Allow ws h d) → Φ (.ref b) (plansC L b Pl :: tups L :: dice p a :: pt q (.lst (ws.map fun x => V.str x.str)) :: R)) : S_lplans K [.ref p, .int m, .ref q, .int most] ps Φ := ⟨p, a, q, ns, ws, m, most, R, rfl, e, rd, hl, hw, hw2, hm, ho, k⟩
theorem deedsIn_snoc {L : Pool} {das : List Addr} {ds : List Deed} {a : Addr} {d : Deed} (h : DeedsIn L das ds) : DeedsIn (L ++ [(a, d.vals)]) (das ++ [a]) (ds ++ [d]) := by
  refine ⟨by simp [h.1], fun i b u hb hu => ?_⟩
  have hl := h.1
  by_cases hi : i < das.length
  · rw [List.getElem?_append_left hi] at hb
    rw [List.getElem?_append_left (by omega)] at hu
    exact List.mem_append_left _ (h.2 i b u hb hu)
  · rw [List.getElem?_append_right (by omega)] at hb hu
    rw [hl] at hb
    cases hk : i - ds.length with
    | zero => rw [hk] at hb hu; simp at hb hu; subst hb; subst hu; exact mem_snoc
    | succ n => rw [hk] at hb; simp at hb
theorem wd_str {a : Wd} (h : V.str a.str = V.str (Str.ofString "take")) : a = .take := by
  cases a <;> first | rfl | exact absurd h (by decide)
section
variable {P : Program} {w : World} {K : PySem.W.Frag} {mg : Str → Option Value} {base : Heap}
theorem ok__law_plans (E : Env K mg) : FnOk P w K mg base CX0 4 E.f__law_plans E.fd__law_plans ["_law_d", "_law_many", "_law_words", "_law_most"] (spS (S_lplans K)) := by
  refine Bx.out ?_
  simp (disch := with_unfolding_all
      refine okS E.F__law_plans sc__law_plans (fun vs ps Φ h => ?_) (fun cdv A outer s H E0 hr => ?_)
      · obtain ⟨p, a, q, ns, ws, m, most, R, rfl, _⟩ := h; rfl
      · refine ⟨_, ((pss_cons (ps_set (i := 4) sc__law_plans.nd rfl (by first | exact Or.inl rfl | exact Or.inr rfl) (pe_lst pa_nil))
     (pss_cons (ps_for PassesOwn.never rfl (pi_range1 (by rfl) E.bn_range (pa_cons (pv 1) pa_nil)) (pg_name (i := 5) sc__law_plans.nd rfl (by first | exact Or.inl rfl | exact Or.inr rfl)) (pss_cons (ps_set (i := 6) sc__law_plans.nd rfl (by first | exact Or.inl rfl | exact Or.inr rfl) (pe_lst pa_nil))
     (pss_cons (ps_for PassesOwn.never rfl (pi_range1 (by rfl) E.bn_range (pa_cons (pe_call (ok__law_off E) (hr.mono (by decide)) rfl E.g__law_off E.k__law_off E.b__law_off .nil pass0 (pa_cons (pv 0) (pa_cons (pe_op op_add (pv 3) pe_int) pa_nil))) pa_nil)) (pg_name (i := 7) sc__law_plans.nd rfl (by first | exact Or.inl rfl | exact Or.inr rfl)) (pss_cons (ps_set (i := 8) sc__law_plans.nd rfl (by first | exact Or.inl rfl | exact Or.inr rfl) (pe_ix ix_list (pv 2) (pe_call (ok__law_off E) (hr.mono (by decide)) rfl E.g__law_off E.k__law_off E.b__law_off .nil pass0 (pa_cons (pv 0) (pa_cons (pe_callB cr_len (by rfl) E.bn_len (by decide +kernel) (pa_cons (pv 2) pa_nil)) pa_nil))) (fun _ _ => rfl)))
     (Evl.pss_cut (ps_if (PW.pt (pw_and (pt_cmpR op_eq (pv 8) pe_str (nomark _)) (pw_and1 (pt_cmpR op_gt (pv 5) pe_int (nomark _))))) (pss_one (ps_set (i := 8) sc__law_plans.nd rfl (by first | exact Or.inl rfl | exact Or.inr rfl) pe_str)) pss_nil)
     (pss_one (ps_expr (pe_bm PySem.F.plainAttrs_list PySem.F.slot_list_append PySem.F.type_list_append mt_append (pv 6) (pa_cons (pe_call (ok__law_deed E) (hr.mono (by decide)) rfl E.g__law_deed E.k__law_deed E.b__law_deed .nil pass0 (pa_cons (pv 0) (pa_cons (pv 8) pa_nil))) pa_nil)))))))
     (pss_one (ps_expr (pe_bm PySem.F.plainAttrs_list PySem.F.slot_list_append PySem.F.type_list_append mt_append (pv 4) (pa_cons (pv 6) pa_nil)))))))
     (pss_one (ps_ret (pv 4)))))), fun vs ps Φ h => ?_⟩
        obtain ⟨p, a, q, ns, ws, m, most, R, rfl, pk, rd, hl, hw, hw2, hm, ho, k⟩ := h
        try dsimp only [cxOf]
        show Ws _ _ _ _ _ [_, _, _, _, _, _, _, _, _] _
        refine Ws.ent pk ?_
        ktf_call "go"
        rename_i b
        refine ws_for (wi_R1 ?_)
        ktf_call "go"
        refine ⟨_, _, rfl, rfl, by omega, fun i σ ps => ∃ v5 v6 v7 v8 as das L Pl, σ = [some (.ref p), some (.int m), some (.ref q), some (.int most), some (.ref b), v5, v6, v7, v8] ∧ (as.length = i ∧ das.length = i ∧ Pl.length = i ∧ ∀ h, h < i → DeedsIn L (das.getD h []) (Pl.getD h []) ∧ (Pl.getD h []).length ≤ most ∧ ∀ d ∈ Pl.getD h [], Allow ws h d) ∧
          Ent ps (pt b (.lst (as.map V.ref)) :: eachR i (fun k => pt (as.getD k 0) (.lst ((das.getD k []).map V.ref))) :: tups L :: dice p a :: pt q (.lst (ws.map fun x => V.str x.str)) :: R),
          ⟨none, none, none, none, [], [], [], [], rfl, ⟨rfl, rfl, rfl, fun h hh => absurd hh (Nat.not_lt_zero _)⟩, (Ent.cons (eachR_zero.trans (Ent.cons tups_nil)))⟩, fun _ _ _ _ _ => trivial, ?_, ?_⟩
        · rintro i y ex σ ps hi ⟨rfl, rfl⟩ ⟨v5, v6, v7, v8, as, das, L, Pl, rfl, ⟨la, ld, lp, dd⟩, e⟩
          replace hi : i < m := by simpa [srcR] using hi
          refine Wg.ent e ?_
          ktf_call "go"
          rename_i pl
          refine ws_for (wi_R1 ?_)
          ktf_call "go"
          rename_i r hr
          refine ⟨_, _, rfl, rfl, by omega, fun j σ ps => ∃ v7 v8 ds D L2, σ = [some (.ref p), some (.int m), some (.ref q), some (.int most), some (.ref b), some (.int (0 + (i : Nat))), some (.ref pl), v7, v8] ∧ (ds.length = j ∧ D.length = j ∧ (∀ y ∈ L, y ∈ L2) ∧ DeedsIn L2 ds D ∧ ∀ d ∈ D, Allow ws i d) ∧
            Ent ps (pt pl (.lst (ds.map V.ref)) :: pt b (.lst (as.map V.ref)) :: eachR i (fun k => pt (as.getD k 0) (.lst ((das.getD k []).map V.ref))) :: tups L2 :: dice p a :: pt q (.lst (ws.map fun x => V.str x.str)) :: R),
            ⟨_, _, [], [], L, rfl, ⟨rfl, rfl, fun _ h => h, ⟨rfl, fun i a d h => by simp at h⟩, fun d h => by simp at h⟩, ?_⟩, fun _ _ _ _ _ => trivial, ?_, ?_⟩
          · show Ent _ (pt pl (.lst []) :: _)
            ktf_call "ent"
          · rintro j y ex σ ps hj ⟨rfl, rfl⟩ ⟨v7, v8, ds, D, L2, rfl, ⟨l1, l2, hL, hD, hA⟩, e⟩
            replace hj : j < r := by simpa [srcR] using hj
            refine Wg.ent e ?_
            ktf_call "go"
            have hwl : 1 ≤ ws.length := List.length_pos_iff.mpr hw
            rw [List.length_map]
            refine s_off (by ktf_call "pick") (by ktf_call "rdl") hl (by omega) fun r2 hr2 => ?_
            refine w2_ixM (by ktf_call "rdl") ⟨by omega, hr2⟩ fun wd hwd => ?_
            rw [Int.toNat_natCast] at hwd
            have hws : wd ∈ ws := List.mem_of_getElem? hwd
            ktf_call "go"
            refine ws_word (fun σ' ps' => ∃ wd' : Wd, (∀ d : Deed, d.wd = wd' → d.ok → Allow ws i d) ∧ σ' = [some (.ref p), some (.int m), some (.ref q), some (.int most), some (.ref b), some (.int (0 + (i : Nat))), some (.ref pl), some (.int (0 + (j : Nat))), some (.str wd'.str)] ∧
              Ent ps' (pt pl (.lst (ds.map V.ref)) :: pt b (.lst (as.map V.ref)) :: eachR i (fun k => pt (as.getD k 0) (.lst ((das.getD k []).map V.ref))) :: tups L2 :: dice p a :: pt q (.lst (ws.map fun x => V.str x.str)) :: R)) ?_ ?_
            · ktf_call "go"
              refine iteD (fun ht => ?_) (fun ht => ?_)
              · have hwt : wd = .take := wd_str ht
                subst hwt
                ktf_call "go"
                refine iteD (fun hi0 => ?_) (fun hi0 => ?_)
                · ktf_call "go"
                  refine ⟨.give, fun d hd ok => ⟨ok, fun z => ?_, .inr ⟨hd, hws⟩⟩, rfl, by ktf_call "ent"⟩
                  subst z; exact absurd hd (by decide)
                · ktf_call "go"
                  exact ⟨.take, fun d hd ok => ⟨ok, fun _ => by omega, .inl (hd ▸ hws)⟩, rfl, by ktf_call "ent"⟩
              · ktf_call "go"
                refine ⟨wd, fun d hd ok => ⟨ok, fun z => ?_, .inl (hd ▸ hws)⟩, rfl, by ktf_call "ent"⟩
                subst z; exact absurd (by rw [← hd]; rfl) ht
            · rintro σ ps ⟨wd', hal, rfl, e⟩
              refine Ws.ent e ?_
              ktf_call "go"
              refine s_ldeed rfl (by ktf_call "pick") (by ktf_call "rdl") hl fun t d hd hok => ?_
              have hal2 := hal d hd hok
              have hsz : (ds.map V.ref).length < sizeLine := by rw [List.length_map]; exact Nat.lt_of_le_of_lt (m := 1001) (by omega) (by decide)
              ktf_call "go"
              refine ⟨_, _, ds ++ [t], D ++ [d], L2 ++ [(t, d.vals)], rfl, ⟨by simp [l1], by simp [l2], fun y hy => List.mem_append_left _ (hL y hy), deedsIn_snoc hD, fun d' hd' => ?_⟩, ?_⟩
              · rcases List.mem_append.mp hd' with h | h
                · exact hA d' h
                · rw [List.mem_singleton.mp h]; exact hal2
              · have em : (ds ++ [t]).map V.ref = ds.map V.ref ++ [.ref t] := by simp
                rw [em]
                refine' Ent.trans ?y3 (Ent.trans (tups_snoc (L := L2) (a := t) (xs := d.vals)) ?y4)
                case y3 => ktf_call "ent"
                ktf_call "ent"
          · rintro σ ps ⟨v7, v8, ds, D, L2, rfl, ⟨l1, l2, hL, hD, hA⟩, e⟩
            have e3 : (srcR 0 (r : Int).toNat).n = r := by simp [srcR]
            have hsz : (as.map V.ref).length < sizeLine := by rw [List.length_map]; exact Nat.lt_of_le_of_lt (m := 6) (by omega) (by decide)
            refine Ws.ent e ?_
            ktf_call "go"
            refine ⟨_, _, _, _, as ++ [pl], das ++ [ds], L2, Pl ++ [D], rfl, ⟨by simp [la], by simp [ld], by simp [lp], fun h hh => ?_⟩, ?_⟩
            · by_cases hh2 : h < i
              · rw [getD_snoc_lt (by omega), getD_snoc_lt (by omega)]
                exact ⟨(dd h hh2).1.mono hL, (dd h hh2).2⟩
              · have : h = i := by omega
                subst this
                rw [getD_snoc_eq (by omega), getD_snoc_eq (by omega)]
                rw [e3] at l2
                exact ⟨hD, by omega, hA⟩
            · have em : (as ++ [pl]).map V.ref = as.map V.ref ++ [.ref pl] := by simp
              rw [em]
              have c := fun R' => eachR_snoc (R := R') (n := i) (f := fun k => pt (as.getD k 0) (.lst ((das.getD k []).map V.ref))) (g := fun k => pt ((as ++ [pl]).getD k 0) (.lst (((das ++ [ds]).getD k []).map V.ref))) fun k hk => by
                rw [getD_snoc_lt (by omega), getD_snoc_lt (by omega)]
              rw [getD_snoc_eq (by omega), getD_snoc_eq (by omega)] at c
              refine' Ent.trans ?y5 (Ent.trans (c _) ?y6)
              case y5 => ktf_call "ent"
              ktf_call "ent"
        · rintro σ ps ⟨v5, v6, v7, v8, as, das, L, Pl, rfl, ⟨la, ld, lp, dd⟩, e⟩
          have e3 : (srcR 0 (m : Int).toNat).n = m := by simp [srcR]
          rw [e3] at la ld lp dd e
          refine Ws.ent e ?_
          ktf_call "go"
          refine OutP.mk' ?_ (k b L Pl lp fun h hh => (dd h hh).2)
          subst lp
          exact ent_plans ⟨as, das, la, ld, fun h hh => (dd h hh).1⟩) only [↓Bx.tr]
end
end
section
local macro_rules | `(tactic| ktf_call "step") => `(tactic| first
  | ((with_reducible refine' methBox ?w1 ?w2 ?w3 ?wd); (case w1 => ktf_call "mem"); (case w2 => exact rfl); (case w3 => decide +kernel))
  | ((with_reducible refine' fldG_box ?w1 fun _ _ _ _ => ?wd); (case w1 => ktf_call "pick"))
  | ((with_reducible refine' fldS_box ?w1 fun _ _ _ _ => ?wd); (case w1 => ktf_call "pick"))
  | ((with_reducible refine' z_bneed ?w1 ?w2 ?wd); (case w1 => ktf_call "pick"); (case w2 => first | assumption | ktf_call "lens")))
local macro_rules | `(tactic| ktf_call "step") => `(tactic| first
  | ((with_reducible refine' meth_scanC ?w1 ?w2 ?w3 ?wd); (case w1 => ktf_call "mem"); (case w2 => exact rfl); (case w3 => decide +kernel))
  | ((with_reducible refine' fldG_scanC ?w1 fun _ _ _ _ => ?wd); (case w1 => ktf_call "pick"))
  | ((with_reducible refine' fldG_memC ?w1 fun _ _ _ _ => ?wd); (case w1 => ktf_call "pick"))
  | ((with_reducible refine' fldS_scanC ?w1 fun _ _ _ _ => ?wd); (case w1 => ktf_call "pick"))
  | ((with_reducible refine' fldS_memC ?w1 fun _ _ _ _ => ?wd); (case w1 => ktf_call "pick"))
  | ((with_reducible refine' z_btake ?w1 ?w2 ?w3 ?wd); (case w1 => ktf_call "pick"); (case w2 => first | assumption | ktf_call "lens"); (case w3 => first | assumption | ktf_call "lens"))
  | ((with_reducible refine' z_bput ?w1 ?w2 ?w3 ?wd); (case w1 => ktf_call "pick"); (case w2 => first | assumption | ktf_call "lens"); (case w3 => first | assumption | ktf_call "lens"))
  | ((with_reducible refine' dinMv ?w1 ?wd); (case w1 => ktf_call "mem"))
  | ((with_reducible refine' rdl_nats ?w1); (case w1 => ktf_call "rdl"))
  | ((with_reducible refine' w2_eqNats ?w1 ?w2 ?wd); (case w1 => ktf_call "rdl"); (case w2 => ktf_call "rdl")))
local macro_rules | `(tactic| ktf_call "step") => `(tactic| first
  | ((with_reducible refine' z_cellof ?w1 ?w2 ?wd); (case w1 => assumption); (case w2 => assumption))
  | (with_reducible refine z_scaninit ?_))
local macro_rules | `(tactic| ktf_call "step") => `(tactic| first
  | ((with_reducible refine' s_cell ?w1 ?w2 ?w3 ?wd); (case w1 => ktf_call "rdl"); (case w2 => assumption); (case w3 => omega))
  | ((with_reducible refine' s_dice ?w1 ?w2 ?w3 fun _ => ?wd); (case w1 => ktf_call "rdl"); (case w2 => assumption); (case w3 => omega))
  | ((with_reducible refine' s_off ?w0 ?w1 ?w2 ?w3 fun r hr => ?wd); (case w0 => ktf_call "pick"); (case w1 => ktf_call "rdl"); (case w2 => assumption); (case w3 => ktf_call "lens")))
local macro_rules | `(tactic| ktf_call "step") => `(tactic| first
  | ((with_reducible refine' w2_ixD ?w1 ?wd); (case w1 => assumption)))
local macro_rules | `(tactic| ktf_call "rdf") => `(tactic| first | with_reducible assumption | ((with_reducible refine' rdf_obj ?w1 ?w2 ?w3); (case w1 => ktf_call "mem"); (case w2 => exact rfl); (case w3 => ktf_call "mem")))
local macro_rules | `(tactic| ktf_call "step") => `(tactic| first
  | ((with_reducible refine' z_needhand ?w1 ?w2 ?wd); (case w1 => ktf_call "rdf"); (case w2 => assumption)))
section
variable {K : PySem.W.Frag} {ps : List HP} {L : Pool}
theorem RecsIn.at' {as : List Addr} {rs : List Rec} {i : Nat} (h : RecsIn L as rs) (hi : i < rs.length) : ∃ r, rs[i]? = some r ∧ RecIn L (as.getD i 0) r := by
  have := h.1
  exact ⟨rs[i], List.getElem?_eq_getElem hi, h.2 i _ _ (getD_lt (by omega)) (List.getElem?_eq_getElem hi)⟩
end
/-- what is no deed -/
inductive BadV : List V → Prop
  | b0 : BadV []
  | b1 : BadV [.str "ones"]
  | b2 : BadV [.str ""]
  | b3 : BadV [.str "Set", .int 5]
  | b4 : BadV [.str "set"]
  | b5 : BadV [.str "give"]
  | b6 : BadV [.str "one", .int 1]
  | b7 : BadV [.str "take", .int 0]
  | b8 : BadV [.str "set", .int 1000]
  | b9 : BadV [.str "add", .int (-1)]
  | b10 (n : Int) (h : 0 ≤ n) : BadV [.str "raise", .int (1000 + n)]
  | b11 (n : Int) (h : 0 ≤ n) : BadV [.str "give", .int (0 - 1 - n)]
  | b12 : BadV [.str "add", .int 1, .int 2]
  | b13 : BadV [.str "look", .int 1, .int 2]
  | b14 : BadV [.str "two", .int 3]
/-- a deed that a hand may do -/
def GoodV (h : Int) (vs : List V) : Prop := ∃ d : Deed, vs = d.vals ∧ d.ok ∧ (d = .take → h = 0)
section
variable {P : Program} {w : World} {K : PySem.W.Frag} {mg : Str → Option Value} {base : Heap}
def S_needX (E : Env K mg) : SX := fun vs ps Φ Ψ => ∃ (q : Addr) (xs : List V) (h : Int), vs = [.ref q, .int h] ∧ RdT K ps q xs ∧ ((GoodV h xs ∧ Φ .non ps) ∨ ((BadV xs ∨ (xs = Deed.vals .take ∧ h ≠ 0)) ∧ ∃ ps', Ent ps ps' ∧ Ψ (.ref E.e_NoDeed) ps'))
theorem ok_needX (E : Env K mg) : FnOk P w K mg base (L2.CX P w) 1 E.f_need_deed E.fd_need_deed ["deed", "hand"] (spX (S_needX E)) := by
  refine Bx.out ?_
  simp (disch := with_unfolding_all
      refine okX E.F_need_deed sc_need_deed (fun vs ps Φ Ψ h => ?_) (fun cdv A outer s H E0 hr => ?_)
      · obtain ⟨q, xs, h, rfl, _⟩ := h; rfl
      · refine ⟨_, ((Evl.pss_cut (ps_if (PW.pt (pw_and (pt_cmpR op_eq (pe_callB cr_len (by rfl) E.bn_len (by decide +kernel) (pa_cons (pv 0) pa_nil)) pe_int (nomark _)) (pw_and1 (pt_cmpR op_in_seq (pe_ix ix_tup (pv 0) pe_int (fun _ _ => rfl)) (pe_glob (v := .ref E.a_WITH_NUMBER) (by rfl) E.g_WITH_NUMBER rfl) (by rfl))))) (pss_one (ps_if (pt_not (pt_chain op_le op_le pe_int (pe_ix ix_tup (pv 0) pe_int (fun _ _ => rfl)) (pe_glob (v := .int 999) (by rfl) E.g_MOST_NUMBER ⟨_, rfl⟩))) (pss_one (ps_raise rfl (takes_of rfl rfl rfl rfl) (pmk_own PySem.F.excBase_ValueError E.x_NoDeed E.g_NoDeed E.k_NoDeed (raises_own E.xb_NoDeed E.xt_NoDeed) (by rfl)))) pss_nil)) (pss_one (ps_if (PW.pt (pw_or (pt_cmpR op_ne (pe_callB cr_len (by rfl) E.bn_len (by decide +kernel) (pa_cons (pv 0) pa_nil)) pe_int (nomark _)) (pw_or1 (pt_cmpR op_notIn_seq (pe_ix ix_tup (pv 0) pe_int (fun _ _ => rfl)) (pe_glob (v := .ref E.a_ALONE) (by rfl) E.g_ALONE rfl) (by rfl))))) (pss_one (ps_raise rfl (takes_of rfl rfl rfl rfl) (pmk_own PySem.F.excBase_ValueError E.x_NoDeed E.g_NoDeed E.k_NoDeed (raises_own E.xb_NoDeed E.xt_NoDeed) (by rfl)))) pss_nil)))
     (pss_one (ps_if (PW.pt (pw_and (pt_cmpR op_eq (pe_ix ix_tup (pv 0) pe_int (fun _ _ => rfl)) pe_str (nomark _)) (pw_and1 (pt_cmpR op_ne (pv 1) pe_int (nomark _))))) (pss_one (ps_raise rfl (takes_of rfl rfl rfl rfl) (pmk_own PySem.F.excBase_ValueError E.x_NoDeed E.g_NoDeed E.k_NoDeed (raises_own E.xb_NoDeed E.xt_NoDeed) (by rfl)))) pss_nil)))), fun vs ps Φ Ψ h hE => ?_⟩
        obtain ⟨q, xs, h, rfl, rd, hc⟩ := h
        have hW := Wish.of hE
        try dsimp only [cxOf]
        show Ws _ _ _ _ _ [_, _] _
        have t1 := E.t_WITH_NUMBER
        have t2 := E.t_ALONE
        have rd1 : RdT K ps E.a_WITH_NUMBER _ := rdt_of t1
        have rd2 : RdT K ps E.a_ALONE _ := rdt_of t2
        rcases hc with ⟨⟨d, rfl, ok, ht⟩, k⟩ | ⟨hb | ⟨rfl, hh⟩, ps2, e2, k⟩
        · cases d
          all_goals simp only [Deed.vals] at rd
          all_goals refine ws_plain ?_
          all_goals ktf_call "go"
          all_goals first | ((refine OutP.mk' ?_ k); ktf_call "ent") | skip
          all_goals try (refine iteTd rfl ?_; ktf_call "go")
          all_goals try (refine iteD (fun _ => ?_) (fun z => absurd (Int.natCast_nonneg _) z); ktf_call "go")
          all_goals try (refine iteND (fun z => absurd (by have hk : _ < 1000 := ok; omega) z) (fun _ => ?_); ktf_call "go"; exact OutP.mk' (by ktf_call "ent") k)
          refine iteND (fun z => absurd (ht rfl) z) (fun _ => ?_)
          ktf_call "go"
          exact OutP.mk' (by ktf_call "ent") k
        · cases hb
          all_goals refine ws_plain ?_
          all_goals ktf_call "go"
          all_goals first | exact ws_raiseE hW e2 k | skip
          all_goals refine iteTd rfl ?_
          all_goals ktf_call "go"
          · refine iteD (fun _ => ?_) (fun z => absurd (by omega) z)
            ktf_call "go"
            refine iteND (fun _ => ?_) (fun z => absurd z (by omega))
            ktf_call "go"
            exact ws_raiseE hW e2 k
          · refine iteD (fun z => absurd z (by omega)) (fun _ => ?_)
            ktf_call "go"
            exact ws_raiseE hW e2 k
        · simp only [Deed.vals] at rd
          refine ws_plain ?_
          ktf_call "go"
          exact ws_raiseE hW e2 k) only [↓Bx.tr]
end
section
variable {P : Program} {w : World} {K : PySem.W.Frag} {mg : Str → Option Value} {base : Heap}
abbrev plX (as : List Addr) (das : List (List Addr)) (n : Nat) : HP := eachR n (fun i => pt (as.getD i 0) (.lst ((das.getD i []).map V.ref)))
/-- plans, each deed told good or bad; one of them is bad, or too long -/
structure PlX (L : Pool) (as : List Addr) (das : List (List Addr)) (n : Nat) (val : Nat → Nat → List V) (bad : Nat → Nat → Bool) : Prop where
  len : as.length = n
  n4 : 1 ≤ n ∧ n ≤ 4
  few : ∀ k, k < n → (das.getD k []).length ≤ 1000
  at' : ∀ k, k < n → ∀ j q, (das.getD k [])[j]? = some q → (q, val k j) ∈ L ∧ (bad k j = false → GoodV (k : Nat) (val k j)) ∧ (bad k j = true → BadV (val k j))
  no : ∃ k, k < n ∧ (40 < (das.getD k []).length ∨ ∃ j, j < (das.getD k []).length ∧ bad k j = true)
def S_hallX (E : Env K mg) : SX := fun vs ps Φ Ψ => ∃ (x a : Addr) (as : List Addr) (das : List (List Addr)) (n : Nat) (val : Nat → Nat → List V) (bad : Nat → Nat → Bool) (L : Pool) (R : List HP), vs = [.ref x, .ref a] ∧ Ent ps (pt a (.lst (as.map V.ref)) :: plX as das n :: tups L :: R) ∧ PlX L as das n val bad ∧ Ψ (.ref E.e_NoDeed) (pt a (.lst (as.map V.ref)) :: plX as das n :: tups L :: R)
theorem ok_hallX (E : Env K mg) : FnOk P w K mg base (L2.CX P w) 3 E.f_Hall_init E.fd_Hall_init ["self", "plans"] (spX (S_hallX E)) := by
  refine Bx.out ?_
  simp (disch := with_unfolding_all
      refine okX E.F_Hall_init sc_Hall_init (fun vs ps Φ Ψ h => ?_) (fun cdv A outer s H E0 hr => ?_)
      · obtain ⟨x, a, as, das, n, val, bad, L, R, rfl, _⟩ := h; rfl
      · have hu := hu_of hr
        refine ⟨_, ((pss_cons (ps_if (pt_not (pt_chain op_le op_le pe_int (pe_callB cr_len (by rfl) E.bn_len (by decide +kernel) (pa_cons (pv 1) pa_nil)) (pe_glob (v := .int 4) (by rfl) E.g_MOST_HANDS ⟨_, rfl⟩))) (pss_one (ps_raise rfl (takes_of rfl rfl rfl rfl) (pmk_own PySem.F.excBase_ValueError E.x_NoHand E.g_NoHand E.k_NoHand (raises_own E.xb_NoHand E.xt_NoHand) (by rfl)))) pss_nil)
     (pss_cons (ps_for (passes_of rfl) rfl (pi_enum (by rfl) E.bn_enumerate (pa_cons (pv 1) pa_nil)) (pg_tup rfl (pgs_cons (pg_name (i := 2) sc_Hall_init.nd rfl (by first | exact Or.inl rfl | exact Or.inr rfl)) (pgs_cons (pg_name (i := 3) sc_Hall_init.nd rfl (by first | exact Or.inl rfl | exact Or.inr rfl)) pgs_nil))) (pss_cons (ps_if (pt_cmpR op_gt (pe_callB cr_len (by rfl) E.bn_len (by decide +kernel) (pa_cons (pv 3) pa_nil)) (pe_glob (v := .int 40) (by rfl) E.g_MOST_DEEDS ⟨_, rfl⟩) (nomark _)) (pss_one (ps_raise rfl (takes_of rfl rfl rfl rfl) (pmk_own PySem.F.excBase_ValueError E.x_NoDeed E.g_NoDeed E.k_NoDeed (raises_own E.xb_NoDeed E.xt_NoDeed) (by rfl)))) pss_nil)
     (pss_one (ps_for (passes_of rfl) rfl (pi_list (pv 3)) (pg_name (i := 4) sc_Hall_init.nd rfl (by first | exact Or.inl rfl | exact Or.inr rfl)) (pss_one (ps_expr (pe_callS (ok_needX E) (hr.mono (by decide)) rfl E.g_need_deed E.k_need_deed E.b_need_deed (fun σ => passAt (takes_of rfl rfl rfl rfl) σ) (pa_cons (pv 4) (pa_cons (pv 2) pa_nil)))))))))
     (pss_cons (ps_fld (pv 0) (pe_callB cr_len (by rfl) E.bn_len (by decide +kernel) (pa_cons (pv 1) pa_nil)) rfl)
     (pss_cons (ps_fld (pv 0) (pe_lc (own := [("plan", 3)]) (g := gName 3) (te := (tCB (rListOf K) _)) (tt := tYes)  (by rfl) sc_Hall_init.nd (pi_list (pv 1)) (blkOk_by (own := [("plan", 3)]) (N := n_Hall_init) (sc := defScope s_Hall_init) (by decide +kernel)) (fun _ _ _ _ _ => (pg_name (i := 3) sc_Hall_init.nd rfl (by first | exact Or.inl rfl | exact Or.inr rfl))) (fun _ _ _ _ _ => pts_nil) (fun _ _ _ _ _ => (pe_callTy cr_listOf (by rfl) E.bn_list (by decide +kernel) (pa_cons (pv 3) pa_nil)))) rfl)
     (pss_cons (ps_fld (pv 0) (pe_make E.mk_Boxes (ok_Boxes_init E) (hr.mono (by decide)) rfl E.g_Boxes E.b_Boxes_init .nil pass0 (pa_cons (pe_op op_mul (pe_glob (v := .int 5) (by rfl) E.g_THINGS ⟨_, rfl⟩) (pe_fld (pv 0) rfl)) pa_nil)) rfl)
     (pss_cons (ps_fld (pv 0) (pe_lc (own := [("plan", 3)]) (g := gName 3) (te := (tMake _ _ [] _ (tCons (tFld K _ "many") tNil))) (tt := tYes)  (by rfl) sc_Hall_init.nd (pi_list (pv 1)) (blkOk_by (own := [("plan", 3)]) (N := n_Hall_init) (sc := defScope s_Hall_init) (by decide +kernel)) (fun _ _ _ _ _ => (pg_name (i := 3) sc_Hall_init.nd rfl (by first | exact Or.inl rfl | exact Or.inr rfl))) (fun _ _ _ _ _ => pts_nil) (fun _ _ _ _ _ => (pe_make E.mk_Memory (ok_Memory_init E) (hr.mono (by decide)) rfl E.g_Memory E.b_Memory_init .nil pass0 (pa_cons (pe_fld (pv 0) rfl) pa_nil)))) rfl)
     (pss_cons (ps_fld (pv 0) (pe_op op_rep (pe_lst (pa_cons pe_non pa_nil)) (pe_fld (pv 0) rfl)) rfl)
     (pss_cons (ps_fld (pv 0) (pe_op op_rep (pe_lst (pa_cons pe_int pa_nil)) (pe_fld (pv 0) rfl)) rfl)
     (pss_cons (ps_fld (pv 0) (pe_op op_rep (pe_lst (pa_cons pe_int pa_nil)) (pe_fld (pv 0) rfl)) rfl)
     (pss_cons (ps_fld (pv 0) (pe_lst pa_nil) rfl)
     (pss_cons (ps_fld (pv 0) pe_dnewT rfl)
     (pss_one (ps_fld (pv 0) (pe_lst pa_nil) rfl)))))))))))))), fun vs ps Φ Ψ h hE => ?_⟩
        obtain ⟨x, a, as, das, n, val, bad, L, R, rfl, e, px, k⟩ := h
        obtain ⟨hlen, hn4, hfew, hat, hno⟩ := px
        have hW := Wish.of hE
        try dsimp only [cxOf]
        show Ws _ _ _ _ _ [_, _, _, _, _] _
        refine Ws.ent e ?_
        clear e
        ktf_call "go"
        rw [List.length_map, hlen]
        refine iteD (fun _ => ?_) (fun z => absurd (by omega) z)
        ktf_call "go"
        refine iteND (fun z => absurd (by omega) z) (fun _ => ?_)
        ktf_call "go"
        refine ws_for (wi_E ?_)
        ktf_call "go"
        refine ⟨a, _, rfl, by ktf_call "rdl", fun i σ ps => ∃ v2 v3 v4, σ = [some (.ref x), some (.ref a), v2, v3, v4] ∧ (∀ k, k < i → (das.getD k []).length ≤ 40 ∧ ∀ j, j < (das.getD k []).length → bad k j = false) ∧ Ent ps (pt a (.lst (as.map V.ref)) :: plX as das n :: tups L :: R), ⟨none, none, none, rfl, fun k hk => absurd hk (Nat.not_lt_zero _), by ktf_call "ent"⟩, ?_, ?_, ?_⟩
        · rintro i σ ps ⟨v2, v3, v4, rfl, _, e⟩ _
          exact RdL.ent e (by ktf_call "rdl")
        · rintro i y ex σ ps hi ⟨p, y2, hy, rfl, rfl⟩ ⟨v2, v3, v4, rfl, hgood, e⟩
          replace hi : i < n := by simpa [srcE, hlen] using hi
          have hy2 : y2 = .ref (as.getD i 0) := by
            rw [List.getElem?_map, getD_lt (d := 0) (by omega)] at hy
            exact (Option.some.inj hy).symm
          subst hy2
          refine Wg.ent e ?_
          have hl1000 := hfew i hi
          ktf_call "go"
          refine wc_lenL (rdl_eachR (n := n) (as := as) (das := das) (by ktf_call "mem") hi) ?_
          ktf_call "go"
          rw [List.length_map]
          refine iteD (fun z => ?_) (fun hle => ?_)
          · refine ws_raiseE hW ?_ k
            ktf_call "ent"
          ktf_call "go"
          refine ws_for (wi_L ?_)
          ktf_call "go"
          refine ⟨as.getD i 0, _, rfl, rdl_eachR (n := n) (as := as) (das := das) (by ktf_call "mem") hi, fun j σ ps => ∃ v4, σ = [some (.ref x), some (.ref a), some (.int (i : Nat)), some (.ref (as.getD i 0)), v4] ∧ (∀ t, t < j → bad i t = false) ∧ ps = _, ⟨v4, rfl, fun t ht => absurd ht (Nat.not_lt_zero _), rfl⟩, ?_, ?_, ?_⟩
          · rintro j σ ps ⟨v4, rfl, _, rfl⟩ _
            exact rdl_eachR (n := n) (as := as) (das := das) (by ktf_call "mem") hi
          · rintro j y ex σ ps hj ⟨hy, rfl⟩ ⟨v4, rfl, hb, rfl⟩
            replace hj : j < (das.getD i []).length := by simpa [srcL] using hj
            have hy2 : y = .ref (das.getD i [])[j] := by
              rw [List.getElem?_map, List.getElem?_eq_getElem hj] at hy
              exact (Option.some.inj hy).symm
            subst hy2
            obtain ⟨g1, g2, g3⟩ := hat i hi j _ (List.getElem?_eq_getElem hj)
            generalize (das.getD i [])[j] = da1 at g1
            ktf_call "go"
            refine ⟨da1, val i j, (i : Nat), rfl, rdt_tups (L := L) (by ktf_call "mem") g1, ?_⟩
            cases hbb : bad i j with
            | true => exact .inr ⟨.inl (g3 hbb), _, by ktf_call "ent", k⟩
            | false =>
              refine .inl ⟨g2 hbb, ?_⟩
              ktf_call "go"
              refine ⟨_, rfl, fun t ht => ?_, rfl⟩
              by_cases z : t = j
              · rw [z]; exact hbb
              · exact hb t (by omega)
          · rintro σ ps ⟨v4, rfl, hb, rfl⟩
            have e3 : (srcL K (as.getD i 0) ((das.getD i []).map V.ref)).n = (das.getD i []).length := by simp [srcL]
            rw [e3] at hb
            refine ⟨_, _, _, rfl, fun k2 hk2 => ?_, by ktf_call "ent"⟩
            by_cases z : k2 = i
            · rw [z]; exact ⟨by omega, hb⟩
            · exact hgood k2 (by omega)
        · rintro σ ps ⟨v2, v3, v4, rfl, hgood, e⟩
          have e3 : (srcE K a (as.map V.ref)).n = n := by simp [srcE, hlen]
          rw [e3] at hgood
          obtain ⟨k2, hk2, hx⟩ := hno
          obtain ⟨h1, h2⟩ := hgood k2 hk2
          rcases hx with hx | ⟨j, hj, hb⟩
          · omega
          · rw [h2 j hj] at hb
            exact absurd hb Bool.false_ne_true) only [↓Bx.tr]
end
section
variable {P : Program} {w : World} {K : PySem.W.Frag} {mg : Str → Option Value} {base : Heap}
def S_lref05 (K : PySem.W.Frag) : SP := fun vs ps Φ => ∃ (q : Addr) (xs : List V) (h : Int), vs = [.ref q, .int h] ∧ RdT K ps q xs ∧ (BadV xs ∨ (xs = Deed.vals .take ∧ h ≠ 0)) ∧ Φ (.bl true) ps
theorem ok__law_refused (E : Env K mg) : FnOk P w K mg base CX0 2 E.f__law_refused E.fd__law_refused ["_law_deed_here", "_law_hand"] (spS (S_lref05 K)) := by
  refine Bx.out ?_
  simp (disch := with_unfolding_all
      refine okS E.F__law_refused sc__law_refused (fun vs ps Φ h => ?_) (fun cdv A outer s H E0 hr => ?_)
      · obtain ⟨q, xs, h, rfl, _⟩ := h; rfl
      · refine ⟨_, ((pss_cons (ps_try_asT (i := 2) (c := .ref E.e_HandsError) rfl rfl sc__law_refused.nd rfl rfl ⟨rfl, by decide, .inl E.g_HandsError⟩ (fun W pn xe tk hp => (pss_one (ps_expr (pe_callS (ok_needX E) (hr.mono (by decide)) rfl E.g_need_deed E.k_need_deed E.b_need_deed (fun σ => passAt tk σ) (pa_cons (pv 0) (pa_cons (pv 1) pa_nil)))))) (fun a oe cls d pn hz hf => pss_when (φ := cls = .ref E.e_NoDeed ∧ d = none) (fun hh => (pss_one (ps_ret (pe_and (pe_callB (call_isE E.ec_NoDeed (by rw [← hh.1, ← hh.2]; exact hz) hf) (by rfl) E.bn_isinstance (by decide +kernel) (pa_cons (pv 2) (pa_cons (pe_glob (v := .ref E.e_NoDeed) (by rfl) E.g_NoDeed rfl) pa_nil))) (pe_and (pe_callB (call_isE E.ec_NoDeed (by rw [← hh.1, ← hh.2]; exact hz) hf) (by rfl) E.bn_isinstance (by decide +kernel) (pa_cons (pv 2) (pa_cons (pe_bltn (v := .ty "ValueError") (by rfl) E.bn_ValueError (by decide +kernel) rfl) pa_nil))) (pe_one (pe_not (pe_callB (call_isET E.ec_NoDeed (by rw [← hh.1, ← hh.2]; exact hz) hf) (by rfl) E.bn_isinstance (by decide +kernel) (pa_cons (pv 2) (pa_cons (pe_tup (pa_cons (pe_glob (v := .ref E.e_NoBox) (by rfl) E.g_NoBox rfl) (pa_cons (pe_glob (v := .ref E.e_NoNumber) (by rfl) E.g_NoNumber rfl) (pa_cons (pe_glob (v := .ref E.e_NoHand) (by rfl) E.g_NoHand rfl) pa_nil)))) pa_nil))))))))))))
     (pss_one (ps_ret pe_bl)))), fun vs ps Φ h => ?_⟩
        obtain ⟨q, xs, h, rfl, rd, hs, k⟩ := h
        dsimp only [cxOf]
        show Ws _ _ _ _ _ [_, _, _] _
        ktf_call "go"
        refine ws_try_as (fun c σ' ps' => c = .ref E.e_NoDeed ∧ σ' = [some (.ref q), some (.int h), none] ∧ ps' = ps) (fun W hW => ?_) ?_
        · ktf_call "go"
          exact ⟨q, xs, h, rfl, rd, .inr ⟨hs, ps, Ent.rf, rfl, rfl, rfl⟩⟩
        · rintro cls σ' ps' ⟨rfl, rfl, rfl⟩
          refine ⟨E.ex_NoDeed, fun e => ws_when ⟨rfl, rfl⟩ ?_⟩
          have f1 := E.kt_NoDeed_NoDeed
          have f2 := E.kt_NoDeed_NoBox
          have f3 := E.kt_NoDeed_NoNumber
          have f4 := E.kt_NoDeed_NoHand
          have f5 := E.kv_NoDeed
          dsimp only [List.set]
          ktf_call "go"
          exact OutP.mk' (by ktf_call "ent") k) only [↓Bx.tr]
def S_lnohall : SP := fun vs ps Φ => ∃ (a : Addr) (as : List Addr) (das : List (List Addr)) (n : Nat) (val : Nat → Nat → List V) (bad : Nat → Nat → Bool) (L : Pool) (R : List HP), vs = [.ref a] ∧ Ent ps (pt a (.lst (as.map V.ref)) :: plX as das n :: tups L :: R) ∧ PlX L as das n val bad ∧ Φ (.bl true) (pt a (.lst (as.map V.ref)) :: plX as das n :: tups L :: R)
theorem ok__law_no_hall (E : Env K mg) : FnOk P w K mg base CX0 5 E.f__law_no_hall E.fd__law_no_hall ["_law_plans_here"] (spS S_lnohall) := by
  refine Bx.out ?_
  simp (disch := with_unfolding_all
      refine okS E.F__law_no_hall sc__law_no_hall (fun vs ps Φ h => ?_) (fun cdv A outer s H E0 hr => ?_)
      · obtain ⟨a, as, das, n, val, bad, L, R, rfl, _⟩ := h; rfl
      · refine ⟨_, ((pss_cons (ps_try_asT (i := 1) (c := .ref E.e_NoDeed) rfl rfl sc__law_no_hall.nd rfl rfl ⟨rfl, by decide, .inl E.g_NoDeed⟩ (fun W pn xe tk hp => (pss_one (ps_expr (pe_makeS E.mk_Hall (ok_hallX E) (hr.mono (by decide)) rfl E.g_Hall E.b_Hall_init (fun σ => passAt tk σ) (pa_cons (pv 0) pa_nil))))) (fun a oe cls d pn hz hf => pss_when (φ := cls = .ref E.e_NoDeed ∧ d = none) (fun hh => (pss_one (ps_ret (pe_callB (call_isE E.ec_NoDeed (by rw [← hh.1, ← hh.2]; exact hz) hf) (by rfl) E.bn_isinstance (by decide +kernel) (pa_cons (pv 1) (pa_cons (pe_glob (v := .ref E.e_HandsError) (by rfl) E.g_HandsError rfl) pa_nil))))))))
     (pss_one (ps_ret pe_bl)))), fun vs ps Φ h => ?_⟩
        obtain ⟨a, as, das, n, val, bad, L, R, rfl, e, px, k⟩ := h
        dsimp only [cxOf]
        show Ws _ _ _ _ _ [_, _] _
        ktf_call "go"
        refine ws_try_as (fun c σ' ps' => c = .ref E.e_NoDeed ∧ σ' = [some (.ref a), none] ∧ ps' = pt a (.lst (as.map V.ref)) :: plX as das n :: tups L :: R) (fun W hW => ?_) ?_
        · ktf_call "go"
          intro x
          exact ⟨x, a, as, das, n, val, bad, L, R, rfl, Ent.drop.trans e, px, rfl, rfl, rfl⟩
        · rintro cls σ' ps' ⟨rfl, rfl, rfl⟩
          refine ⟨E.exs_NoDeed, fun e => ws_when ⟨rfl, rfl⟩ ?_⟩
          have f1 := E.kh_NoDeed
          dsimp only [List.set]
          ktf_call "go"
          exact OutP.mk' (by ktf_call "ent") k) only [↓Bx.tr]
def S_lodd05 (K : PySem.W.Frag) : SP := fun vs ps Φ => ∃ (d a : Addr) (ns : List Int) (R : List HP), vs = [.ref d] ∧ Pick (dice d a) ps R ∧ RdL K R a (ns.map V.int) ∧ ns.length ≤ 1000 ∧ ∀ (q : Addr) (xs : List V), BadV xs → Φ (.ref q) (pt q (.tup xs) :: dice d a :: R)
theorem ok__law_odd (E : Env K mg) : FnOk P w K mg base CX0 3 E.f__law_odd E.fd__law_odd ["_law_d"] (spS (S_lodd05 K)) := by
  refine Bx.out ?_
  simp (disch := with_unfolding_all
      refine okS E.F__law_odd sc__law_odd (fun vs ps Φ h => ?_) (fun cdv A outer s H E0 hr => ?_)
      · obtain ⟨d, a, ns, R, rfl, _⟩ := h; rfl
      · refine ⟨_, ((pss_cons (ps_set (i := 1) sc__law_odd.nd rfl (by first | exact Or.inl rfl | exact Or.inr rfl) (pe_call (ok__law_off E) (hr.mono (by decide)) rfl E.g__law_off E.k__law_off E.b__law_off .nil pass0 (pa_cons (pv 0) (pa_cons (pe_op op_pow pe_int pe_int) pa_nil))))
     (pss_cons (ps_set (i := 2) sc__law_odd.nd rfl (by first | exact Or.inl rfl | exact Or.inr rfl) (pe_lst (pa_cons (pe_tup pa_nil) (pa_cons (pe_tup (pa_cons pe_str pa_nil)) (pa_cons (pe_tup (pa_cons pe_str pa_nil)) (pa_cons (pe_tup (pa_cons pe_str (pa_cons pe_int pa_nil))) (pa_cons (pe_tup (pa_cons pe_str pa_nil)) (pa_cons (pe_tup (pa_cons pe_str pa_nil)) (pa_cons (pe_tup (pa_cons pe_str (pa_cons pe_int pa_nil))) (pa_cons (pe_tup (pa_cons pe_str (pa_cons pe_int pa_nil))) (pa_cons (pe_tup (pa_cons pe_str (pa_cons pe_int pa_nil))) (pa_cons (pe_tup (pa_cons pe_str (pa_cons (pe_un un_neg pe_int) pa_nil))) pa_nil))))))))))))
     (pss_cons (ps_set (i := 2) sc__law_odd.nd rfl (by first | exact Or.inl rfl | exact Or.inr rfl) (pe_op op_cat (pv 2) (pe_lst (pa_cons (pe_tup (pa_cons pe_str (pa_cons (pe_op op_add pe_int (pv 1)) pa_nil))) (pa_cons (pe_tup (pa_cons pe_str (pa_cons (pe_op op_sub (pe_op op_sub pe_int pe_int) (pv 1)) pa_nil))) (pa_cons (pe_tup (pa_cons pe_str (pa_cons pe_int (pa_cons pe_int pa_nil)))) (pa_cons (pe_tup (pa_cons pe_str (pa_cons pe_int (pa_cons pe_int pa_nil)))) (pa_cons (pe_tup (pa_cons pe_str (pa_cons pe_int pa_nil))) pa_nil))))))))
     (pss_one (ps_ret (pe_ix ix_list (pv 2) (pe_call (ok__law_off E) (hr.mono (by decide)) rfl E.g__law_off E.k__law_off E.b__law_off .nil pass0 (pa_cons (pv 0) (pa_cons pe_int pa_nil))) (fun _ _ => rfl)))))))), fun vs ps Φ h => ?_⟩
        obtain ⟨d, a, ns, R, rfl, pk, rd, hl, k⟩ := h
        try dsimp only [cxOf]
        show Ws _ _ _ _ _ [_, _, _] _
        refine Ws.ent (Ent.perm pk.perm) ?_
        ktf_call "go"
        refine s_off (by ktf_call "pick") (by ktf_call "rdl") hl ⟨by decide, by decide⟩ fun far hfar => ?_
        ktf_call "go"
        refine w2_cat (by ktf_call "mem") (by ktf_call "mem") (by show 10 + 5 ≤ sizeLine; decide) fun cl => ?_
        dsimp only [List.cons_append, List.nil_append]
        ktf_call "go"
        rename_i r hr2
        have hr15 : r = 0 ∨ r = 1 ∨ r = 2 ∨ r = 3 ∨ r = 4 ∨ r = 5 ∨ r = 6 ∨ r = 7 ∨ r = 8 ∨ r = 9 ∨ r = 10 ∨ r = 11 ∨ r = 12 ∨ r = 13 ∨ r = 14 := by
          have h : (r : Int) < 15 := hr2
          omega
        rcases hr15 with rfl | rfl | rfl | rfl | rfl | rfl | rfl | rfl | rfl | rfl | rfl | rfl | rfl | rfl | rfl
        all_goals refine w2_ixL (by ktf_call "rdl") rfl ?_
        · exact OutP.mk' (by ktf_call "ent") (k _ _ .b0)
        · exact OutP.mk' (by ktf_call "ent") (k _ _ .b1)
        · exact OutP.mk' (by ktf_call "ent") (k _ _ .b2)
        · exact OutP.mk' (by ktf_call "ent") (k _ _ .b3)
        · exact OutP.mk' (by ktf_call "ent") (k _ _ .b4)
        · exact OutP.mk' (by ktf_call "ent") (k _ _ .b5)
        · exact OutP.mk' (by ktf_call "ent") (k _ _ .b6)
        · exact OutP.mk' (by ktf_call "ent") (k _ _ .b7)
        · exact OutP.mk' (by ktf_call "ent") (k _ _ .b8)
        · exact OutP.mk' (by ktf_call "ent") (k _ _ .b9)
        · exact OutP.mk' (by ktf_call "ent") (k _ _ (.b10 far (by omega)))
        · exact OutP.mk' (by ktf_call "ent") (k _ _ (.b11 far (by omega)))
        · exact OutP.mk' (by ktf_call "ent") (k _ _ .b12)
        · exact OutP.mk' (by ktf_call "ent") (k _ _ .b13)
        · exact OutP.mk' (by ktf_call "ent") (k _ _ .b14)) only [↓Bx.tr]
end
theorem we_copyX {K : PySem.W.Frag} {σ : L2.St} {j n : Nat} {b : Addr} {as : List Addr} {das : List (List Addr)} {ps R : List HP} {Φ : V → List HP → Prop} {tl : TE} (hs : ∀ ps' (Φ' : V → List HP → Prop), Φ' (.ref b) ps' → We tl σ ps' Φ') (hj : j < σ.length) (hlen : as.length = n) (hn : n ≤ 1000)
    (e : Ent ps (pt b (.lst (as.map V.ref)) :: plX as das n :: R)) (k : ∀ p (bs : List Addr) ps', bs.length = n → Ent ps' (pt p (.lst (bs.map V.ref)) :: plX bs das n :: pt b (.lst (as.map V.ref)) :: plX as das n :: R) → Φ (.ref p) ps') :
    We (tLc (iList K tl) (gName j) tYes (tCB (rListOf K) (tCons (tVar j) tNil)) [j]) σ ps Φ := by
  refine We.ent e ?_
  have hwl : j < (wipe σ [j]).length := by simpa [wipe] using hj
  refine we_lc (wi_L (hs _ _ ⟨b, _, rfl, rdl_pt (List.mem_cons_self ..), fun d i acc ps => ∃ as2 : List Addr, as2.length = i ∧ acc = as2.map V.ref ∧ Ent ps (pt d (.lst acc) :: eachR i (fun k => pt (as2.getD k 0) (.lst ((das.getD k []).map V.ref))) :: pt b (.lst (as.map V.ref)) :: plX as das n :: R), fun d => ⟨[], rfl, rfl, Ent.cons eachR_zero⟩, ?_, ?_, ?_⟩))
  · rintro d i acc ps ⟨as2, _, rfl, e⟩ _
    exact RdL.ent e (rdl_pt (List.mem_cons_of_mem _ (List.mem_cons_of_mem _ (List.mem_cons_self ..))))
  · rintro d i y ex acc ps hi2 ⟨hy, rfl⟩ ⟨as2, h2, rfl, e⟩
    replace hi2 : i < n := by simpa [srcL, hlen] using hi2
    rw [List.getElem?_map, getD_lt (d := 0) (by omega)] at hy
    have hy := Option.some.inj hy
    subst hy
    refine Wg.ent (ex := []) e ?_
    show Wg _ _ _ (pt d _ :: _) _
    refine wg_name (wipG wipe_set (wt_yes ?_))
    rw [if_pos rfl]
    refine we_CB (wa_cons (we_var (List.getElem?_set_self hwl) (wa_nil (wc_listL (xs := (das.getD i []).map V.ref) ?_ fun p => ?_))))
    · exact RdL.ent (eachR_at (n := n) (i := i) (List.mem_cons_of_mem _ (List.mem_cons_of_mem _ (List.mem_cons_of_mem _ (List.mem_cons_self ..)))) hi2) (rdl_pt (List.mem_cons_self ..))
    · have hsz : (as2.map V.ref).length < sizeLine := by rw [List.length_map]; exact Nat.lt_of_le_of_lt (m := 1000) (by omega) (by decide)
      refine accG (Rep.tl Rep.hd) hsz ⟨as2 ++ [p], by simp [h2], by simp, ?_⟩
      have c := eachR_snoc (R := pt b (.lst (as.map V.ref)) :: plX as das n :: R) (n := i) (f := fun k => pt (as2.getD k 0) (.lst ((das.getD k []).map V.ref))) (g := fun k => pt ((as2 ++ [p]).getD k 0) (.lst ((das.getD k []).map V.ref))) fun k hk => by
        rw [getD_snoc_lt (by omega)]
      rw [getD_snoc_eq h2.symm] at c
      refine Ent.trans (Ent.perm (List.Perm.swap _ _ _)) (Ent.cons c)
  · rintro d acc ps ⟨as2, h2, rfl, e⟩
    have h2 : as2.length = n := by simpa [srcL, hlen] using h2
    have e3 : (srcL K b (as.map V.ref)).n = n := by simp [srcL, hlen]
    rw [e3] at e
    exact k d as2 ps h2 e
theorem plX_set {bs : List Addr} {das : List (List Addr)} {n hn : Nat} {c : Addr} {nd : List Addr} {R : List HP} (hl : bs.length = n) (hd : das.length = n) (hh : hn < n) : Ent (pt c (.lst (nd.map V.ref)) :: plX bs das n :: R) (plX (bs.set hn c) (das.set hn nd) n :: R) := by
  have g1 : (bs.set hn c).getD hn 0 = c := by rw [List.getD_eq_getElem?_getD, List.getElem?_set_self (by omega)]; rfl
  have g2 : (das.set hn nd).getD hn [] = nd := by rw [List.getD_eq_getElem?_getD, List.getElem?_set_self (by omega)]; rfl
  have k := eachR_close (R := R) (n := n) (i := hn) (f := fun i => pt (bs.getD i 0) (.lst ((das.getD i []).map V.ref))) (g := fun i => pt ((bs.set hn c).getD i 0) (.lst (((das.set hn nd).getD i []).map V.ref))) hh fun i hi z => by
    have z2 : hn ≠ i := fun e => z e.symm
    rw [List.getD_eq_getElem?_getD, List.getElem?_set_ne z2, ← List.getD_eq_getElem?_getD, List.getD_eq_getElem?_getD (l := das.set hn nd), List.getElem?_set_ne z2, ← List.getD_eq_getElem?_getD]
  rw [g1, g2] at k
  exact (Ent.cons ((eachR_open hh).trans Ent.drop)).trans k
def S_law (K : PySem.W.Frag) : SP := fun vs ps Φ => ∃ (a : Addr) (ns : List Int), vs = [.ref a] ∧ ps = [scr K a ns] ∧ ns.length ≤ 63 ∧ ∀ ps', Φ (.bl true) ps'
section
variable {P : Program} {w : World} {K : PySem.W.Frag} {mg : Str → Option Value} {base : Heap}
theorem ok_law (E : Env K mg) : FnOk P w K mg base CX0 8 E.f_law E.fd_law ["_law_script"] (spS (S_law K)) := by
  refine Bx.out ?_
  simp (disch := with_unfolding_all
      refine okS E.F_law sc_law (fun vs ps Φ h => ?_) (fun cdv A outer s H E0 hr => ?_)
      · obtain ⟨a, ns, rfl, _⟩ := h; rfl
      · refine ⟨_, ((pss_cons (ps_set (i := 1) sc_law.nd rfl (by first | exact Or.inl rfl | exact Or.inr rfl) (pe_call (ok__law_dice E) (hr.mono (by decide)) rfl E.g__law_dice E.k__law_dice E.b__law_dice .nil pass0 (pa_cons (pv 0) (pa_cons pe_int pa_nil))))
     (pss_cons (ps_set (i := 2) sc_law.nd rfl (by first | exact Or.inl rfl | exact Or.inr rfl) (pe_lst (pa_cons pe_str (pa_cons pe_str (pa_cons pe_str (pa_cons pe_str (pa_cons pe_str (pa_cons pe_str (pa_cons pe_str (pa_cons pe_str (pa_cons pe_str (pa_cons pe_str pa_nil))))))))))))
     (pss_cons (ps_set (i := 3) sc_law.nd rfl (by first | exact Or.inl rfl | exact Or.inr rfl) (pe_op op_mod (pe_callB cr_abs (by rfl) E.bn_abs (by decide +kernel) (pa_cons (pe_call (ok__law_cell E) (hr.mono (by decide)) rfl E.g__law_cell E.k__law_cell E.b__law_cell .nil pass0 (pa_cons (pv 0) (pa_cons pe_int pa_nil))) pa_nil)) pe_int))
     (pss_cons (ps_for PassesOwn.never rfl (pi_list (pv 2)) (pg_name (i := 4) sc_law.nd rfl (by first | exact Or.inl rfl | exact Or.inr rfl)) (pss_cons (ps_set (i := 10) sc_law.nd rfl (by first | exact Or.inl rfl | exact Or.inr rfl) (pe_call (ok__law_deed E) (hr.mono (by decide)) rfl E.g__law_deed E.k__law_deed E.b__law_deed .nil pass0 (pa_cons (pv 1) (pa_cons (pv 4) pa_nil))))
     (pss_one (ps_if (PW.pt (pw_and (pt_cmpR op_eq (pv 4) pe_str (nomark _)) (pw_and1 (pt_cmpR op_gt (pv 3) pe_int (nomark _))))) (pss_one (ps_if (pt_not (pt_val (pe_call (ok__law_refused E) (hr.mono (by decide)) rfl E.g__law_refused E.k__law_refused E.b__law_refused .nil pass0 (pa_cons (pv 10) (pa_cons (pv 3) pa_nil))))) (pss_one (ps_ret pe_bl)) pss_nil)) (pss_one (ps_if (pt_cmp (pc_notN (pe_call (ok_need_deed E) (hr.mono (by decide)) rfl E.g_need_deed E.k_need_deed E.b_need_deed .nil pass0 (pa_cons (pv 10) (pa_cons (pv 3) pa_nil))))) (pss_one (ps_ret pe_bl)) pss_nil))))))
     (pss_cons (ps_set (i := 5) sc_law.nd rfl (by first | exact Or.inl rfl | exact Or.inr rfl) (pe_call (ok__law_odd E) (hr.mono (by decide)) rfl E.g__law_odd E.k__law_odd E.b__law_odd .nil pass0 (pa_cons (pv 1) pa_nil)))
     (pss_cons (ps_if (pt_not (pt_val (pe_call (ok__law_refused E) (hr.mono (by decide)) rfl E.g__law_refused E.k__law_refused E.b__law_refused .nil pass0 (pa_cons (pv 5) (pa_cons (pv 3) pa_nil))))) (pss_one (ps_ret pe_bl)) pss_nil)
     (pss_cons (ps_set (i := 6) sc_law.nd rfl (by first | exact Or.inl rfl | exact Or.inr rfl) (pe_call (ok__law_plans E) (hr.mono (by decide)) rfl E.g__law_plans E.k__law_plans E.b__law_plans .nil pass0 (pa_cons (pv 1) (pa_cons pe_int (pa_cons (pv 2) (pa_cons pe_int pa_nil))))))
     (pss_cons (ps_set (i := 7) sc_law.nd rfl (by first | exact Or.inl rfl | exact Or.inr rfl) (pe_op op_mod (pe_callB cr_abs (by rfl) E.bn_abs (by decide +kernel) (pa_cons (pe_call (ok__law_cell E) (hr.mono (by decide)) rfl E.g__law_cell E.k__law_cell E.b__law_cell .nil pass0 (pa_cons (pv 0) (pa_cons pe_int pa_nil))) pa_nil)) (pe_op op_add (pe_callB cr_len (by rfl) E.bn_len (by decide +kernel) (pa_cons (pe_ix ix_list (pv 6) (pv 3) (fun _ _ => rfl)) pa_nil)) pe_int)))
     (pss_cons (ps_setLc (i := 8) (own := [("_law_plan", 11)]) (g := gName 11) (te := (tCB (rListOf K) _)) (tt := tYes)  (by rfl) sc_law.nd rfl rfl (sw_true rfl rfl rfl (by decide +kernel)) (pi_list (pv 6)) (blkOk_by (own := [("_law_plan", 11)]) (N := n_law) (sc := defScope s_law) (by decide +kernel)) (fun _ _ _ _ _ => (pg_name (i := 11) sc_law.nd rfl (by first | exact Or.inl rfl | exact Or.inr rfl))) (fun _ _ _ _ _ => pts_nil) (fun _ _ _ _ _ => (pe_callTy cr_listOf (by rfl) E.bn_list (by decide +kernel) (pa_cons (pv 11) pa_nil))))
     (pss_cons (ps_asg (pe_op op_cat (pe_op op_cat (pe_slice sl_list (pe_ix ix_list (pv 8) (pv 3) (fun _ _ => rfl)) po_none (po_some (pv 7))) (pe_lst (pa_cons (pv 5) pa_nil))) (pe_slice sl_list (pe_ix ix_list (pv 8) (pv 3) (fun _ _ => rfl)) (po_some (pv 7)) po_none)) (pg_sub (pv 8) (pv 3) set_list))
     (pss_cons (ps_setLc (i := 9) (own := [("_law_plan", 11)]) (g := gName 11) (te := (tCB (rListOf K) _)) (tt := tYes)  (by rfl) sc_law.nd rfl rfl (sw_true rfl rfl rfl (by decide +kernel)) (pi_list (pv 6)) (blkOk_by (own := [("_law_plan", 11)]) (N := n_law) (sc := defScope s_law) (by decide +kernel)) (fun _ _ _ _ _ => (pg_name (i := 11) sc_law.nd rfl (by first | exact Or.inl rfl | exact Or.inr rfl))) (fun _ _ _ _ _ => pts_nil) (fun _ _ _ _ _ => (pe_callTy cr_listOf (by rfl) E.bn_list (by decide +kernel) (pa_cons (pv 11) pa_nil))))
     (pss_cons (ps_asg (pe_op op_rep (pe_lst (pa_cons (pe_call (ok__law_deed E) (hr.mono (by decide)) rfl E.g__law_deed E.k__law_deed E.b__law_deed .nil pass0 (pa_cons (pv 1) (pa_cons pe_str pa_nil))) pa_nil)) pe_int) (pg_sub (pv 9) (pv 3) set_list))
     (pss_cons (ps_if (PW.pt (pw_or (pt_not (pt_val (pe_call (ok__law_no_hall E) (hr.mono (by decide)) rfl E.g__law_no_hall E.k__law_no_hall E.b__law_no_hall .nil pass0 (pa_cons (pv 8) pa_nil)))) (pw_or1 (pt_not (pt_val (pe_call (ok__law_no_hall E) (hr.mono (by decide)) rfl E.g__law_no_hall E.k__law_no_hall E.b__law_no_hall .nil pass0 (pa_cons (pv 9) pa_nil))))))) (pss_one (ps_ret pe_bl)) pss_nil)
     (pss_cons (ps_asg (pe_slice sl_list (pe_ix ix_list (pv 9) (pv 3) (fun _ _ => rfl)) (po_some pe_int) po_none) (pg_sub (pv 9) (pv 3) set_list))
     (pss_one (ps_ret (pe_and (pe_cmpR (op_eqD hr.units) (pe_meth0 (pe_make E.mk_Hall (ok_Hall_init E) (hr.mono (by decide)) rfl E.g_Hall E.b_Hall_init .nil pass0 (pa_cons (pv 9) pa_nil)) E.i_Hall.cls E.m_Hall_records (ok_Hall_records E) (hr.mono (by decide)) E.b_Hall_records .nil pass0) (pe_lst pa_nil) (nomark _)) (pe_one (pe_cmpR (op_eqD hr.units) (pe_meth0 (pe_make E.mk_Hall (ok_Hall_init E) (hr.mono (by decide)) rfl E.g_Hall E.b_Hall_init .nil pass0 (pa_cons (pv 6) pa_nil)) E.i_Hall.cls E.m_Hall_records (ok_Hall_records E) (hr.mono (by decide)) E.b_Hall_records .nil pass0) (pe_lst pa_nil) (nomark _))))))))))))))))))))), fun vs ps Φ h => ?_⟩
        obtain ⟨a, ns, rfl, rfl, hl, q⟩ := h
        try dsimp only [cxOf]
        show Ws _ _ _ _ _ [_, _, _, _, _, _, _, _, _, _, _, _] _
        have hl2 : ns.length ≤ 1000 := by omega
        ktf_call "go"
        rename_i dd wl
        obtain ⟨hn, ehn, hhn⟩ : ∃ hn : Nat, ((ns.getD (Int.toNat 1) 0).natAbs : Int) % 4 = (hn : Int) ∧ hn < 4 := ⟨(ns.getD (Int.toNat 1) 0).natAbs % 4, by omega, by omega⟩
        rw [ehn]
        obtain ⟨wv, hwv⟩ : ∃ wv, wds.map (fun x => V.str x.str) = wv := ⟨_, rfl⟩
        have hwv2 : [V.str "one", .str "count", .str "set", .str "look", .str "add", .str "sum", .str "raise", .str "top", .str "give", .str "take"] = wv := hwv
        rw [hwv2]
        refine ws_for (wi_L ?_)
        ktf_call "go"
        refine ⟨wl, _, rfl, by ktf_call "rdl", fun i σ ps => ∃ v4 v10, σ = [some (.ref a), some (.ref dd), some (.ref wl), some (.int (hn : Nat)), v4, none, none, none, none, none, v10, none] ∧ Ent ps [pt wl (.lst wv), dice dd a, scr K a ns], ⟨none, none, rfl, by ktf_call "ent"⟩, ?_, ?_, ?_⟩
        · rintro i σ ps ⟨v4, v10, rfl, e⟩ _
          exact RdL.ent e (rdl_pt (List.mem_cons_self ..))
        · rintro i y ex σ ps hi ⟨hy, rfl⟩ ⟨v4, v10, rfl, e⟩
          obtain ⟨wd, hwd⟩ : ∃ wd : Wd, y = V.str wd.str := by
            have hy2 : wv[i]? = some y := hy
            rw [← hwv, List.getElem?_map] at hy2
            obtain ⟨wd, _, h2⟩ := Option.map_eq_some_iff.mp hy2
            exact ⟨wd, h2.symm⟩
          subst hwd
          clear hy
          refine Wg.ent e ?_
          clear e
          dsimp only [List.nil_append]
          ktf_call "go"
          refine s_ldeed rfl (by ktf_call "pick") (by ktf_call "rdl") hl2 fun dq d hd hok => ?_
          subst hd
          cases d
          all_goals simp only [Deed.wd, Wd.str, Deed.vals]
          all_goals ktf_call "go"
          · refine z_need (d := .one) (rdt_pt (List.mem_cons_self ..)) hok (fun z => nomatch z) ?_
            ktf_call "go"
            exact ⟨_, _, rfl, by ktf_call "ent"⟩
          · refine z_need (d := .count) (rdt_pt (List.mem_cons_self ..)) hok (fun z => nomatch z) ?_
            ktf_call "go"
            exact ⟨_, _, rfl, by ktf_call "ent"⟩
          · refine z_need (d := .set _) (rdt_pt (List.mem_cons_self ..)) hok (fun z => nomatch z) ?_
            ktf_call "go"
            exact ⟨_, _, rfl, by ktf_call "ent"⟩
          · refine z_need (d := .look) (rdt_pt (List.mem_cons_self ..)) hok (fun z => nomatch z) ?_
            ktf_call "go"
            exact ⟨_, _, rfl, by ktf_call "ent"⟩
          · refine z_need (d := .add _) (rdt_pt (List.mem_cons_self ..)) hok (fun z => nomatch z) ?_
            ktf_call "go"
            exact ⟨_, _, rfl, by ktf_call "ent"⟩
          · refine z_need (d := .sum) (rdt_pt (List.mem_cons_self ..)) hok (fun z => nomatch z) ?_
            ktf_call "go"
            exact ⟨_, _, rfl, by ktf_call "ent"⟩
          · refine z_need (d := .raise _) (rdt_pt (List.mem_cons_self ..)) hok (fun z => nomatch z) ?_
            ktf_call "go"
            exact ⟨_, _, rfl, by ktf_call "ent"⟩
          · refine z_need (d := .top) (rdt_pt (List.mem_cons_self ..)) hok (fun z => nomatch z) ?_
            ktf_call "go"
            exact ⟨_, _, rfl, by ktf_call "ent"⟩
          · refine z_need (d := .give _) (rdt_pt (List.mem_cons_self ..)) hok (fun z => nomatch z) ?_
            ktf_call "go"
            exact ⟨_, _, rfl, by ktf_call "ent"⟩
          · refine iteD (fun hpos => ?_) (fun hpos => ?_)
            · ktf_call "go"
              refine ⟨dq, Deed.vals .take, (hn : Nat), rfl, rdt_pt (List.mem_cons_self ..), .inr ⟨rfl, by omega⟩, ?_⟩
              ktf_call "go"
              exact ⟨_, _, rfl, by ktf_call "ent"⟩
            · ktf_call "go"
              refine z_need (d := .take) (rdt_pt (List.mem_cons_self ..)) hok (fun _ => by omega) ?_
              ktf_call "go"
              exact ⟨_, _, rfl, by ktf_call "ent"⟩
        rintro σ ps ⟨v4, v10, rfl, e⟩
        refine Ws.ent e ?_
        clear e
        ktf_call "go"
        refine ⟨dd, a, ns, _, rfl, by ktf_call "pick", by ktf_call "rdl", hl2, fun oq oxs hbad => ?_⟩
        ktf_call "go"
        refine ⟨oq, oxs, (hn : Nat), rfl, by ktf_call "rdt", .inl hbad, ?_⟩
        ktf_call "go"
        refine z_lplans (m := 4) (most := 6) (ws := wds) (ns := ns) (by rw [hwv]; ktf_call "ent") (by ktf_call "rdl") hl2 (fun z => nomatch z) (by decide) (by omega) (by omega) fun b L Pl hpl hpo => ?_
        refine Wg.opn (opn_plans (R := _)) fun z => ?_
        obtain ⟨as, das, la, ld, ddd⟩ := z
        rw [hpl]
        dsimp only
        rw [hpl] at la ld ddd
        have ehas : (as.map V.ref)[hn]? = some (V.ref (as.getD hn 0)) := by rw [List.getElem?_map, getD_lt (d := 0) (by omega)]; rfl
        have hdl : (das.getD hn []).length ≤ 6 := by rw [(ddd hn hhn).1]; exact (hpo hn hhn).1
        ktf_call "go"
        refine w2_ixL (v := .ref (as.getD hn 0)) (by ktf_call "rdl") (atI_of rfl ehas) ?_
        ktf_call "go"
        refine wc_lenL (rdl_eachR (n := 4) (as := as) (das := das) (by ktf_call "mem") hhn) ?_
        rw [List.length_map]
        ktf_call "go"
        obtain ⟨at', eat, hat⟩ : ∃ at' : Nat, ((ns.getD (Int.toNat 2) 0).natAbs : Int) % (((das.getD hn []).length : Nat) + 1) = (at' : Int) ∧ at' ≤ (das.getD hn []).length :=
          ⟨(ns.getD (Int.toNat 2) 0).natAbs % ((das.getD hn []).length + 1), (Int.natCast_emod _ ((das.getD hn []).length + 1)).symm, Nat.lt_succ_iff.mp (Nat.mod_lt _ (Nat.succ_pos _))⟩
        rw [eat]
        refine we_copyX (j := 11) (n := 4) (b := b) (as := as) (das := das) (R := [tups L, dice dd a, pt wl (.lst (wds.map fun x => V.str x.str)), pt oq (.tup oxs), scr K a ns]) (fun ps' Φ' h => we_var rfl h) (by simp) la (by decide) (by ktf_call "ent") fun wp bs ps' hbs e1 => ?_
        refine Wg.ent (ex := []) e1 ?_
        clear e1
        dsimp only [List.nil_append]
        have ehbs : (bs.map V.ref)[hn]? = some (V.ref (bs.getD hn 0)) := by rw [List.getElem?_map, getD_lt (d := 0) (by omega)]; rfl
        ktf_call "go"
        refine w2_ixL (v := .ref (bs.getD hn 0)) (by ktf_call "rdl") (atI_of rfl ehbs) ?_
        ktf_call "go"
        refine wsl_L (rdl_eachR (n := 4) (as := bs) (das := das) (by ktf_call "mem") hhn) fun s1 => ?_
        rw [cutV_to, ← List.map_take]
        ktf_call "go"
        rename_i ol
        have hsz : ∀ z : Nat, z ≤ 100000 → z ≤ sizeLine := fun z hz => Nat.le_trans hz (by decide)
        refine w2_cat (xs := ((das.getD hn []).take at').map V.ref) (ys := [.ref oq]) (by ktf_call "mem") (by ktf_call "mem") (hsz _ (by simp only [List.length_map, List.length_take, List.length_cons, List.length_nil]; omega)) fun s2 => ?_
        ktf_call "go"
        refine w2_ixL (v := .ref (bs.getD hn 0)) (by ktf_call "rdl") (atI_of rfl ehbs) ?_
        ktf_call "go"
        refine wsl_L (rdl_eachR (n := 4) (as := bs) (das := das) (by ktf_call "mem") hhn) fun s3 => ?_
        rw [cutV_from, ← List.map_drop]
        refine w2_cat (xs := ((das.getD hn []).take at').map V.ref ++ [.ref oq]) (ys := ((das.getD hn []).drop at').map V.ref) (by ktf_call "mem") (by ktf_call "mem") (hsz _ (by simp only [List.length_map, List.length_take, List.length_drop, List.length_append, List.length_cons, List.length_nil]; omega)) fun c => ?_
        have ec : ((das.getD hn []).take at').map V.ref ++ [V.ref oq] ++ ((das.getD hn []).drop at').map V.ref = ((das.getD hn []).take at' ++ oq :: (das.getD hn []).drop at').map V.ref := by simp
        rw [ec]
        ktf_call "go"
        refine wst_L (n := hn) (by ktf_call "rep") rfl (by rw [List.length_map]; omega) ?_
        rw [← List.map_set]
        generalize hnd : (das.getD hn []).take at' ++ oq :: (das.getD hn []).drop at' = nd
        clear ec
        refine Ws.ent (ps' := plX (bs.set hn c) (das.set hn nd) 4 :: pt wp (.lst ((bs.set hn c).map V.ref)) :: pt b (.lst (as.map V.ref)) :: plX as das 4 :: tups (L ++ [(oq, oxs)]) :: dice dd a :: scr K a ns :: []) ?_ ?_
        · refine Ent.trans (?y1 : Ent _ (pt c (.lst (nd.map V.ref)) :: plX bs das 4 :: pt oq (.tup oxs) :: tups L :: pt wp (.lst ((bs.set hn c).map V.ref)) :: pt b (.lst (as.map V.ref)) :: plX as das 4 :: dice dd a :: scr K a ns :: [])) ((plX_set hbs ld hhn).trans ((Ent.cons tups_snoc).trans ?y2))
          case y1 => ktf_call "ent"
          case y2 => ktf_call "ent"
        ktf_call "go"
        obtain ⟨L1, hL1⟩ : ∃ L1, L1 = L ++ [(oq, oxs)] := ⟨_, rfl⟩
        rw [← hL1]
        obtain ⟨bs1, hbs1⟩ : ∃ bs1, bs1 = bs.set hn c := ⟨_, rfl⟩
        obtain ⟨das1, hdas1⟩ : ∃ das1, das1 = das.set hn nd := ⟨_, rfl⟩
        rw [← hbs1, ← hdas1]
        refine we_copyX (j := 11) (n := 4) (b := b) (as := as) (das := das) (R := plX bs1 das1 4 :: pt wp (.lst (bs1.map V.ref)) :: tups L1 :: dice dd a :: scr K a ns :: []) (fun ps' Φ' h => we_var rfl h) (by simp) la (by decide) (by ktf_call "ent") fun lp cs ps2 hcs e2 => ?_
        refine Wg.ent (ex := []) e2 ?_
        clear e2
        dsimp only [List.nil_append]
        ktf_call "go"
        refine s_ldeed (wd := .add) rfl (by ktf_call "pick") (by ktf_call "rdl") hl2 fun aq ad had hadok => ?_
        ktf_call "go"
        refine w2_rep (by ktf_call "mem") (by decide) (by decide) (Nat.le_trans (m := 1000) (by simp) (by decide)) fun rl => ?_
        have er : (List.replicate (Int.toNat 41) [V.ref aq]).flatten = (List.replicate 41 aq).map V.ref := by
          rw [show Int.toNat 41 = 41 from rfl, List.flatten_replicate_singleton, List.map_replicate]
        rw [er]
        ktf_call "go"
        refine wst_L (n := hn) (by ktf_call "rep") rfl (by rw [List.length_map]; omega) ?_
        rw [← List.map_set]
        refine Ws.ent (ps' := plX (cs.set hn rl) (das.set hn (List.replicate 41 aq)) 4 :: pt lp (.lst ((cs.set hn rl).map V.ref)) :: pt b (.lst (as.map V.ref)) :: plX as das 4 :: plX bs1 das1 4 :: pt wp (.lst (bs1.map V.ref)) :: tups (L1 ++ [(aq, ad.vals)]) :: scr K a ns :: []) ?_ ?_
        · refine Ent.trans (?y3 : Ent _ (pt rl (.lst ((List.replicate 41 aq).map V.ref)) :: plX cs das 4 :: pt aq (.tup ad.vals) :: tups L1 :: pt lp (.lst ((cs.set hn rl).map V.ref)) :: pt b (.lst (as.map V.ref)) :: plX as das 4 :: plX bs1 das1 4 :: pt wp (.lst (bs1.map V.ref)) :: scr K a ns :: [])) ((plX_set hcs ld hhn).trans ((Ent.cons tups_snoc).trans ?y4))
          case y3 => ktf_call "ent"
          case y4 => ktf_call "ent"
        ktf_call "go"
        obtain ⟨L2, hL2⟩ : ∃ L2, L2 = L1 ++ [(aq, ad.vals)] := ⟨_, rfl⟩
        have hL12 : ∀ y ∈ L1, y ∈ L2 := fun y hy => by rw [hL2]; exact more_snoc _ hy
        have hL02 : ∀ y ∈ L, y ∈ L2 := fun y hy => hL12 y (by rw [hL1]; exact more_snoc _ hy)
        have hoq2 : (oq, oxs) ∈ L2 := hL12 _ (by rw [hL1]; exact mem_snoc)
        have haq2 : (aq, ad.vals) ∈ L2 := by rw [hL2]; exact mem_snoc
        rw [← hL2]
        obtain ⟨pv, hpv⟩ : ∃ pv : Nat → Nat → List V, ∀ k, k < 4 → ∀ i q, (das.getD k [])[i]? = some q → (q, pv k i) ∈ L2 ∧ GoodV (k : Nat) (pv k i) := by
          refine ⟨fun k i => (((Pl.getD k [])[i]?).map Deed.vals).getD [], fun k hk i q hq => ?_⟩
          obtain ⟨e1, e2⟩ := ddd k hk
          have hi : i < (Pl.getD k []).length := by rw [← e1]; exact (List.getElem?_eq_some_iff.mp hq).1
          have hd := List.getElem?_eq_getElem hi
          have h3 := (hpo k hk).2 _ (List.getElem_mem hi)
          dsimp only
          rw [hd]
          exact ⟨hL02 _ (e2 i q _ hq hd), _, rfl, h3.1, fun z => by have := h3.2.1 z; omega⟩
        have hdas1l : ∀ k, k ≠ hn → das1.getD k [] = das.getD k [] := fun k z => by rw [hdas1, List.getD_eq_getElem?_getD, List.getElem?_set_ne (fun e => z e.symm), ← List.getD_eq_getElem?_getD]
        have hdas1n : das1.getD hn [] = (das.getD hn []).take at' ++ oq :: (das.getD hn []).drop at' := by rw [hdas1, List.getD_eq_getElem?_getD, List.getElem?_set_self (by omega), ← hnd]; rfl
        have hdl4 : ∀ k, k < 4 → (das.getD k []).length ≤ 6 := fun k hk => by rw [(ddd k hk).1]; exact (hpo k hk).1
        have px1 : PlX L2 bs1 das1 4 (fun k j => if k = hn then (if j < at' then pv hn j else if j = at' then oxs else pv hn (j - 1)) else pv k j) (fun k j => decide (k = hn ∧ j = at')) := by
          refine ⟨by rw [hbs1, List.length_set]; exact hbs, by omega, fun k hk => ?_, fun k hk j q2 hq => ?_, ⟨hn, hhn, .inr ⟨at', ?_, decide_eq_true ⟨rfl, rfl⟩⟩⟩⟩
          · by_cases z : k = hn
            · rw [z, hdas1n, List.length_append, List.length_cons, List.length_take, List.length_drop]
              have := hdl4 hn hhn
              omega
            · rw [hdas1l k z]
              have := hdl4 k hk
              omega
          · by_cases z : k = hn
            · subst z
              rw [hdas1n] at hq
              rw [if_pos rfl]
              by_cases z1 : j < at'
              · rw [if_pos z1]
                rw [List.getElem?_append_left (by rw [List.length_take]; omega), List.getElem?_take, if_pos z1] at hq
                obtain ⟨h1, h2⟩ := hpv k hk j q2 hq
                exact ⟨h1, fun _ => h2, fun h => absurd (of_decide_eq_true h).2 (by omega)⟩
              · rw [if_neg z1]
                rw [List.getElem?_append_right (by rw [List.length_take]; omega), List.length_take, Nat.min_eq_left hat] at hq
                by_cases z2 : j = at'
                · subst z2
                  rw [Nat.sub_self] at hq
                  have hq := Option.some.inj hq
                  subst hq
                  rw [if_pos rfl]
                  exact ⟨hoq2, fun h => absurd (decide_eq_true (And.intro rfl rfl)) (by rw [h]; exact Bool.false_ne_true), fun _ => hbad⟩
                · rw [if_neg z2]
                  rw [show j - at' = (j - at' - 1) + 1 by omega, List.getElem?_cons_succ, List.getElem?_drop, show at' + (j - at' - 1) = j - 1 by omega] at hq
                  obtain ⟨h1, h2⟩ := hpv k hk (j - 1) q2 hq
                  exact ⟨h1, fun _ => h2, fun h => absurd (of_decide_eq_true h).2 z2⟩
            · rw [hdas1l k z] at hq
              rw [if_neg z]
              obtain ⟨h1, h2⟩ := hpv k hk j q2 hq
              exact ⟨h1, fun _ => h2, fun h => absurd (of_decide_eq_true h).1 z⟩
          · rw [hdas1n, List.length_append, List.length_cons, List.length_take, List.length_drop]
            omega
        obtain ⟨bs2, hbs2⟩ : ∃ bs2, bs2 = cs.set hn rl := ⟨_, rfl⟩
        obtain ⟨das2, hdas2⟩ : ∃ das2, das2 = das.set hn (List.replicate 41 aq) := ⟨_, rfl⟩
        rw [← hbs2, ← hdas2]
        have hdas2l : ∀ k, k ≠ hn → das2.getD k [] = das.getD k [] := fun k z => by rw [hdas2, List.getD_eq_getElem?_getD, List.getElem?_set_ne (fun e => z e.symm), ← List.getD_eq_getElem?_getD]
        have hdas2n : das2.getD hn [] = List.replicate 41 aq := by rw [hdas2, List.getD_eq_getElem?_getD, List.getElem?_set_self (by omega)]; rfl
        have hadg : GoodV (hn : Nat) ad.vals := ⟨ad, rfl, hadok, fun z => by rw [z] at had; exact nomatch had⟩
        have px2 : PlX L2 bs2 das2 4 (fun k j => if k = hn then ad.vals else pv k j) (fun _ _ => false) := by
          refine ⟨by rw [hbs2, List.length_set]; exact hcs, by omega, fun k hk => ?_, fun k hk j q2 hq => ?_, ⟨hn, hhn, .inl (by rw [hdas2n, List.length_replicate]; decide)⟩⟩
          · by_cases z : k = hn
            · rw [z, hdas2n, List.length_replicate]; decide
            · rw [hdas2l k z]
              have := hdl4 k hk
              omega
          · by_cases z : k = hn
            · subst z
              rw [hdas2n] at hq
              have hq2 := List.eq_of_mem_replicate (List.mem_of_getElem? hq)
              rw [if_pos rfl, hq2]
              exact ⟨haq2, fun _ => hadg, fun h => absurd h Bool.false_ne_true⟩
            · rw [hdas2l k z] at hq
              rw [if_neg z]
              obtain ⟨h1, h2⟩ := hpv k hk j q2 hq
              exact ⟨h1, fun _ => h2, fun h => absurd h Bool.false_ne_true⟩
        refine ⟨wp, bs1, das1, 4, _, _, L2, _, rfl, by ktf_call "ent", px1, ?_⟩
        ktf_call "go"
        refine ⟨lp, bs2, das2, 4, _, _, L2, _, rfl, by ktf_call "ent", px2, ?_⟩
        ktf_call "go"
        have ehbs2 : (bs2.map V.ref)[hn]? = some (V.ref (bs2.getD hn 0)) := by rw [List.getElem?_map, getD_lt (d := 0) (by rw [px2.len]; omega)]; rfl
        have hd2l : das2.length = 4 := by rw [hdas2, List.length_set]; exact ld
        refine w2_ixL (v := .ref (bs2.getD hn 0)) (by ktf_call "rdl") (atI_of rfl ehbs2) ?_
        ktf_call "go"
        refine wsl_L (rdl_eachR (n := 4) (as := bs2) (das := das2) (by ktf_call "mem") hhn) fun sl => ?_
        rw [show (1 : Int) = ((1 : Nat) : Int) from rfl, cutV_from, ← List.map_drop]
        ktf_call "go"
        refine wst_L (n := hn) (by ktf_call "rep") rfl (by rw [List.length_map, px2.len]; omega) ?_
        rw [← List.map_set]
        have dd1 : ∀ h, h < (Pl.set hn (List.replicate 40 ad)).length → DeedsIn L2 ((das2.set hn ((das2.getD hn []).drop 1)).getD h []) ((Pl.set hn (List.replicate 40 ad)).getD h []) := fun h hh => by
          rw [List.length_set, hpl] at hh
          by_cases z : h = hn
          · subst z
            have e1 : (das2.set h ((das2.getD h []).drop 1)).getD h [] = List.replicate 40 aq := by
              rw [List.getD_eq_getElem?_getD, List.getElem?_set_self (by omega), hdas2n]
              show (List.replicate 41 aq).drop 1 = _
              rw [List.drop_replicate]
            have e2 : (Pl.set h (List.replicate 40 ad)).getD h [] = List.replicate 40 ad := by
              rw [List.getD_eq_getElem?_getD, List.getElem?_set_self (by omega)]; rfl
            rw [e1, e2]
            refine ⟨by rw [List.length_replicate, List.length_replicate], fun i q2 d2 h1 h2 => ?_⟩
            rw [List.eq_of_mem_replicate (List.mem_of_getElem? h1), List.eq_of_mem_replicate (List.mem_of_getElem? h2)]
            exact haq2
          · have z2 : hn ≠ h := fun e => z e.symm
            have e1 : (das2.set hn ((das2.getD hn []).drop 1)).getD h [] = das.getD h [] := by
              rw [List.getD_eq_getElem?_getD, List.getElem?_set_ne z2, ← List.getD_eq_getElem?_getD]
              exact hdas2l h z
            have e2 : (Pl.set hn (List.replicate 40 ad)).getD h [] = Pl.getD h [] := by
              rw [List.getD_eq_getElem?_getD, List.getElem?_set_ne z2, ← List.getD_eq_getElem?_getD]
            rw [e1, e2]
            exact (ddd h hh).mono hL02
        have dd0 : ∀ h, h < Pl.length → DeedsIn L2 (das.getD h []) (Pl.getD h []) := fun h hh => (ddd h (by omega)).mono hL02
        have hpok0 : PlanOk' Pl := ⟨by omega, fun h hh => ⟨by have := (hpo h (by omega)).1; omega, fun d hd => ⟨((hpo h (by omega)).2 d hd).1, ((hpo h (by omega)).2 d hd).2.1⟩⟩⟩
        have hpok1 : PlanOk' (Pl.set hn (List.replicate 40 ad)) := by
          refine ⟨by rw [List.length_set]; omega, fun h hh => ?_⟩
          rw [List.length_set] at hh
          by_cases z : h = hn
          · subst z
            have e2 : (Pl.set h (List.replicate 40 ad)).getD h [] = List.replicate 40 ad := by
              rw [List.getD_eq_getElem?_getD, List.getElem?_set_self (by omega)]; rfl
            rw [e2]
            refine ⟨by rw [List.length_replicate]; decide, fun d hd => ?_⟩
            rw [List.eq_of_mem_replicate hd]
            exact ⟨hadok, fun z => by rw [z] at had; exact nomatch had⟩
          · have z2 : hn ≠ h := fun e => z e.symm
            have e2 : (Pl.set hn (List.replicate 40 ad)).getD h [] = Pl.getD h [] := by
              rw [List.getD_eq_getElem?_getD, List.getElem?_set_ne z2, ← List.getD_eq_getElem?_getD]
            rw [e2]
            exact hpok0.2 h hh
        refine Ws.ent (ps' := plansC L2 lp (Pl.set hn (List.replicate 40 ad)) :: plansC L2 b Pl :: tups L2 :: scr K a ns :: []) ?_ ?_
        · have c1 := ent_plans (q := lp) (L := L2) (R := pt b (.lst (as.map V.ref)) :: eachR Pl.length (fun i => pt (as.getD i 0) (.lst ((das.getD i []).map V.ref))) :: tups L2 :: scr K a ns :: []) (⟨bs2.set hn sl, das2.set hn ((das2.getD hn []).drop 1), by rw [List.length_set, List.length_set, px2.len, hpl], by rw [List.length_set, List.length_set, hd2l, hpl], dd1⟩ : PlAd L2 (Pl.set hn (List.replicate 40 ad)))
          have c2 := ent_plans (q := b) (L := L2) (R := tups L2 :: scr K a ns :: []) (⟨as, das, by rw [hpl]; exact la, by rw [hpl]; exact ld, dd0⟩ : PlAd L2 Pl)
          dsimp only at c1 c2
          rw [List.length_set] at c1
          rw [hpl] at c1 c2
          refine Ent.trans (?y5 : Ent _ (pt sl (.lst (((das2.getD hn []).drop 1).map V.ref)) :: plX bs2 das2 4 :: pt lp (.lst ((bs2.set hn sl).map V.ref)) :: pt b (.lst (as.map V.ref)) :: plX as das 4 :: tups L2 :: scr K a ns :: [])) ((plX_set px2.len hd2l hhn).trans ((Ent.perm (List.Perm.swap _ _ _)).trans (c1.trans (Ent.cons c2))))
          case y5 => ktf_call "ent"
        ktf_call "go"
        intro h1
        refine z_hallinit (x := h1) (a := lp) (L := L2) (Pl := Pl.set hn (List.replicate 40 ad)) (by ktf_call "ent") hpok1 ⟨rfl, ?_⟩
        ktf_call "go"
        refine meth_hall (I := hiE E) (x := h1) (L := L2) (S := Mir.HallS.new (Pl.set hn (List.replicate 40 ad))) (by ktf_call "mem") rfl (by decide) ?_
        ktf_call "go"
        refine z_records (x := h1) (L := L2) (S := Mir.HallS.new (Pl.set hn (List.replicate 40 ad))) (by ktf_call "ent") (Nat.zero_le _) fun r1 L3 as3 rs3 hL3 hrs3 hc3 => ?_
        have hrs30 : rs3 = [] := List.eq_nil_of_length_eq_zero (by
          have := congrArg List.length hc3
          rw [List.length_map] at this
          exact this)
        ktf_call "go"
        refine w2_eqD (rdd_recs (L := L3) (by ktf_call "mem") hrs3 (by ktf_call "rdl")) (rdd_nil (by ktf_call "rdl")) ?_
        rw [recs_eqNil, decide_eq_true hrs30]
        ktf_call "go"
        intro h2
        refine z_hallinit (x := h2) (a := b) (L := L3) (Pl := Pl) (by refine Ent.trans ?_ (Ent.cons (plans_mono hL3)); ktf_call "ent") hpok0 ⟨rfl, ?_⟩
        ktf_call "go"
        refine meth_hall (I := hiE E) (x := h2) (L := L3) (S := Mir.HallS.new Pl) (by ktf_call "mem") rfl (by decide) ?_
        ktf_call "go"
        refine z_records (x := h2) (L := L3) (S := Mir.HallS.new Pl) (by ktf_call "ent") (Nat.zero_le _) fun r2 L4 as4 rs4 hL4 hrs4 hc4 => ?_
        have hrs40 : rs4 = [] := List.eq_nil_of_length_eq_zero (by
          have := congrArg List.length hc4
          rw [List.length_map] at this
          exact this)
        ktf_call "go"
        refine w2_eqD (rdd_recs (L := L4) (by ktf_call "mem") hrs4 (by ktf_call "rdl")) (rdd_nil (by ktf_call "rdl")) ?_
        rw [recs_eqNil, decide_eq_true hrs40]
        exact .here (q _)) only [↓Bx.tr]
end
end
theorem noCons {K : PySem.W.Frag} {C : Addr} {f : Str} {r : List Str} (h : NoAttr K C f) (t : ∀ g ∈ r, NoAttr K C g) : ∀ g ∈ f :: r, NoAttr K C g := fun g m => by
  rcases List.mem_cons.mp m with e | m
  · subst e; exact h
  · exact t g m
theorem all_mk {l : PySem.W.OpenLaw} {w : World} {K : PySem.W.Frag} {h : Heap} {mg : Str → Option Value} {fa : Addr} (X : K.In h) (G : h.Ns mainGlobals mg) (hfa : mg "law" = some (.ref fa))
    {f_need_deed : Addr} {oc_need_deed kV_need_deed dc_need_deed pm_need_deed cd_need_deed ct_need_deed : Value} {od_need_deed an_need_deed : Option Addr} {sl_need_deed : Array (Option Value)}
    {f_Boxes_init : Addr} {oc_Boxes_init kV_Boxes_init dc_Boxes_init pm_Boxes_init cd_Boxes_init ct_Boxes_init : Value} {od_Boxes_init an_Boxes_init : Option Addr} {sl_Boxes_init : Array (Option Value)}
    {f_Boxes_need : Addr} {oc_Boxes_need kV_Boxes_need dc_Boxes_need pm_Boxes_need cd_Boxes_need ct_Boxes_need : Value} {od_Boxes_need an_Boxes_need : Option Addr} {sl_Boxes_need : Array (Option Value)}
    {f_Boxes_take : Addr} {oc_Boxes_take kV_Boxes_take dc_Boxes_take pm_Boxes_take cd_Boxes_take ct_Boxes_take : Value} {od_Boxes_take an_Boxes_take : Option Addr} {sl_Boxes_take : Array (Option Value)}
    {f_Boxes_put : Addr} {oc_Boxes_put kV_Boxes_put dc_Boxes_put pm_Boxes_put cd_Boxes_put ct_Boxes_put : Value} {od_Boxes_put an_Boxes_put : Option Addr} {sl_Boxes_put : Array (Option Value)}
    {f_packed : Addr} {oc_packed kV_packed dc_packed pm_packed cd_packed ct_packed : Value} {od_packed an_packed : Option Addr} {sl_packed : Array (Option Value)}
    {f_parted : Addr} {oc_parted kV_parted dc_parted pm_parted cd_parted ct_parted : Value} {od_parted an_parted : Option Addr} {sl_parted : Array (Option Value)}
    {f_cell_of : Addr} {oc_cell_of kV_cell_of dc_cell_of pm_cell_of cd_cell_of ct_cell_of : Value} {od_cell_of an_cell_of : Option Addr} {sl_cell_of : Array (Option Value)}
    {f_Scan_init : Addr} {oc_Scan_init kV_Scan_init dc_Scan_init pm_Scan_init cd_Scan_init ct_Scan_init : Value} {od_Scan_init an_Scan_init : Option Addr} {sl_Scan_init : Array (Option Value)}
    {f_Scan_step : Addr} {oc_Scan_step kV_Scan_step dc_Scan_step pm_Scan_step cd_Scan_step ct_Scan_step : Value} {od_Scan_step an_Scan_step : Option Addr} {sl_Scan_step : Array (Option Value)}
    {f_Scan_looked : Addr} {oc_Scan_looked kV_Scan_looked dc_Scan_looked pm_Scan_looked cd_Scan_looked ct_Scan_looked : Value} {od_Scan_looked an_Scan_looked : Option Addr} {sl_Scan_looked : Array (Option Value)}
    {f_Memory_init : Addr} {oc_Memory_init kV_Memory_init dc_Memory_init pm_Memory_init cd_Memory_init ct_Memory_init : Value} {od_Memory_init an_Memory_init : Option Addr} {sl_Memory_init : Array (Option Value)}
    {f_Work_init : Addr} {oc_Work_init kV_Work_init dc_Work_init pm_Work_init cd_Work_init ct_Work_init : Value} {od_Work_init an_Work_init : Option Addr} {sl_Work_init : Array (Option Value)}
    {f_Work_step : Addr} {oc_Work_step kV_Work_step dc_Work_step pm_Work_step cd_Work_step ct_Work_step : Value} {od_Work_step an_Work_step : Option Addr} {sl_Work_step : Array (Option Value)}
    {f_One_step : Addr} {oc_One_step kV_One_step dc_One_step pm_One_step cd_One_step ct_One_step : Value} {od_One_step an_One_step : Option Addr} {sl_One_step : Array (Option Value)}
    {f_Count_init : Addr} {oc_Count_init kV_Count_init dc_Count_init pm_Count_init cd_Count_init ct_Count_init : Value} {od_Count_init an_Count_init : Option Addr} {sl_Count_init : Array (Option Value)}
    {f_Count_step : Addr} {oc_Count_step kV_Count_step dc_Count_step pm_Count_step cd_Count_step ct_Count_step : Value} {od_Count_step an_Count_step : Option Addr} {sl_Count_step : Array (Option Value)}
    {f_Look_init : Addr} {oc_Look_init kV_Look_init dc_Look_init pm_Look_init cd_Look_init ct_Look_init : Value} {od_Look_init an_Look_init : Option Addr} {sl_Look_init : Array (Option Value)}
    {f_Look_step : Addr} {oc_Look_step kV_Look_step dc_Look_step pm_Look_step cd_Look_step ct_Look_step : Value} {od_Look_step an_Look_step : Option Addr} {sl_Look_step : Array (Option Value)}
    {f_Change_init : Addr} {oc_Change_init kV_Change_init dc_Change_init pm_Change_init cd_Change_init ct_Change_init : Value} {od_Change_init an_Change_init : Option Addr} {sl_Change_init : Array (Option Value)}
    {f_Change_step : Addr} {oc_Change_step kV_Change_step dc_Change_step pm_Change_step cd_Change_step ct_Change_step : Value} {od_Change_step an_Change_step : Option Addr} {sl_Change_step : Array (Option Value)}
    {f_Give_init : Addr} {oc_Give_init kV_Give_init dc_Give_init pm_Give_init cd_Give_init ct_Give_init : Value} {od_Give_init an_Give_init : Option Addr} {sl_Give_init : Array (Option Value)}
    {f_Give_step : Addr} {oc_Give_step kV_Give_step dc_Give_step pm_Give_step cd_Give_step ct_Give_step : Value} {od_Give_step an_Give_step : Option Addr} {sl_Give_step : Array (Option Value)}
    {f_Take_init : Addr} {oc_Take_init kV_Take_init dc_Take_init pm_Take_init cd_Take_init ct_Take_init : Value} {od_Take_init an_Take_init : Option Addr} {sl_Take_init : Array (Option Value)}
    {f_Take_step : Addr} {oc_Take_step kV_Take_step dc_Take_step pm_Take_step cd_Take_step ct_Take_step : Value} {od_Take_step an_Take_step : Option Addr} {sl_Take_step : Array (Option Value)}
    {f_Take_rank : Addr} {oc_Take_rank kV_Take_rank dc_Take_rank pm_Take_rank cd_Take_rank ct_Take_rank : Value} {od_Take_rank an_Take_rank : Option Addr} {sl_Take_rank : Array (Option Value)}
    {f_work_of : Addr} {oc_work_of kV_work_of dc_work_of pm_work_of cd_work_of ct_work_of : Value} {od_work_of an_work_of : Option Addr} {sl_work_of : Array (Option Value)}
    {f_Done_init : Addr} {oc_Done_init kV_Done_init dc_Done_init pm_Done_init cd_Done_init ct_Done_init : Value} {od_Done_init an_Done_init : Option Addr} {sl_Done_init : Array (Option Value)}
    {f_Hall_init : Addr} {oc_Hall_init kV_Hall_init dc_Hall_init pm_Hall_init cd_Hall_init ct_Hall_init : Value} {od_Hall_init an_Hall_init : Option Addr} {sl_Hall_init : Array (Option Value)}
    {f_Hall_need_hand : Addr} {oc_Hall_need_hand kV_Hall_need_hand dc_Hall_need_hand pm_Hall_need_hand cd_Hall_need_hand ct_Hall_need_hand : Value} {od_Hall_need_hand an_Hall_need_hand : Option Addr} {sl_Hall_need_hand : Array (Option Value)}
    {f_Hall_step : Addr} {oc_Hall_step kV_Hall_step dc_Hall_step pm_Hall_step cd_Hall_step ct_Hall_step : Value} {od_Hall_step an_Hall_step : Option Addr} {sl_Hall_step : Array (Option Value)}
    {f_Hall_records : Addr} {oc_Hall_records kV_Hall_records dc_Hall_records pm_Hall_records cd_Hall_records ct_Hall_records : Value} {od_Hall_records an_Hall_records : Option Addr} {sl_Hall_records : Array (Option Value)}
    {f__law_cell : Addr} {oc__law_cell kV__law_cell dc__law_cell pm__law_cell cd__law_cell ct__law_cell : Value} {od__law_cell an__law_cell : Option Addr} {sl__law_cell : Array (Option Value)}
    {f__law_dice : Addr} {oc__law_dice kV__law_dice dc__law_dice pm__law_dice cd__law_dice ct__law_dice : Value} {od__law_dice an__law_dice : Option Addr} {sl__law_dice : Array (Option Value)}
    {f__law_off : Addr} {oc__law_off kV__law_off dc__law_off pm__law_off cd__law_off ct__law_off : Value} {od__law_off an__law_off : Option Addr} {sl__law_off : Array (Option Value)}
    {f__law_deed : Addr} {oc__law_deed kV__law_deed dc__law_deed pm__law_deed cd__law_deed ct__law_deed : Value} {od__law_deed an__law_deed : Option Addr} {sl__law_deed : Array (Option Value)}
    {f__law_plans : Addr} {oc__law_plans kV__law_plans dc__law_plans pm__law_plans cd__law_plans ct__law_plans : Value} {od__law_plans an__law_plans : Option Addr} {sl__law_plans : Array (Option Value)}
    {f__law_refused : Addr} {oc__law_refused kV__law_refused dc__law_refused pm__law_refused cd__law_refused ct__law_refused : Value} {od__law_refused an__law_refused : Option Addr} {sl__law_refused : Array (Option Value)}
    {f__law_no_hall : Addr} {oc__law_no_hall kV__law_no_hall dc__law_no_hall pm__law_no_hall cd__law_no_hall ct__law_no_hall : Value} {od__law_no_hall an__law_no_hall : Option Addr} {sl__law_no_hall : Array (Option Value)}
    {f__law_odd : Addr} {oc__law_odd kV__law_odd dc__law_odd pm__law_odd cd__law_odd ct__law_odd : Value} {od__law_odd an__law_odd : Option Addr} {sl__law_odd : Array (Option Value)}
    {f_law : Addr} {oc_law kV_law dc_law pm_law cd_law ct_law : Value} {od_law an_law : Option Addr} {sl_law : Array (Option Value)}
    {C_Boxes : Addr}
    {C_Scan : Addr}
    {C_Memory : Addr}
    {C_Work : Addr}
    {C_One : Addr}
    {C_Count : Addr}
    {C_Look : Addr}
    {C_Change : Addr}
    {C_Give : Addr}
    {C_Take : Addr}
    {C_Done : Addr}
    {C_Hall : Addr}
    {e_HandsError : Addr}
    {e_NoNumber : Addr}
    {e_NoBox : Addr}
    {e_NoHand : Addr}
    {e_NoDeed : Addr}
    {gt_MOST_NUMBER : Tok}
    {a_WITH_NUMBER : Addr} {oc_WITH_NUMBER : Option Addr} {nn_WITH_NUMBER : Nat} {sl_WITH_NUMBER : Array (Option Value)} {tk_WITH_NUMBER_0 : Tok} {tk_WITH_NUMBER_1 : Tok} {tk_WITH_NUMBER_2 : Tok} {tk_WITH_NUMBER_3 : Tok}
    {a_ALONE : Addr} {oc_ALONE : Option Addr} {nn_ALONE : Nat} {sl_ALONE : Array (Option Value)} {tk_ALONE_0 : Tok} {tk_ALONE_1 : Tok} {tk_ALONE_2 : Tok} {tk_ALONE_3 : Tok} {tk_ALONE_4 : Tok} {tk_ALONE_5 : Tok}
    {gt_BASE : Tok}
    {a_PLACES : Addr} {es_PLACES : Array DictEntry} {nn_PLACES : Nat} {tk_PLACES_0 : Tok} {tk_PLACES_1 : Tok} {tk_PLACES_2 : Tok} {tk_PLACES_3 : Tok} {tk_PLACES_4 : Tok} {tk_PLACES_5 : Tok} {tk_PLACES_6 : Tok} {tk_PLACES_7 : Tok} {tk_PLACES_8 : Tok} {tk_PLACES_9 : Tok}
    {gt_MOST_HANDS : Tok}
    {gt_MOST_DEEDS : Tok}
    {gt_THINGS : Tok}
    (n_f_need_deed : PySem.W.nsIn K mainGlobals "need_deed" = some (some (.ref f_need_deed)))
    (n_f_packed : PySem.W.nsIn K mainGlobals "packed" = some (some (.ref f_packed)))
    (n_f_parted : PySem.W.nsIn K mainGlobals "parted" = some (some (.ref f_parted)))
    (n_f_cell_of : PySem.W.nsIn K mainGlobals "cell_of" = some (some (.ref f_cell_of)))
    (n_f_work_of : PySem.W.nsIn K mainGlobals "work_of" = some (some (.ref f_work_of)))
    (n_f__law_cell : PySem.W.nsIn K mainGlobals "_law_cell" = some (some (.ref f__law_cell)))
    (n_f__law_dice : PySem.W.nsIn K mainGlobals "_law_dice" = some (some (.ref f__law_dice)))
    (n_f__law_off : PySem.W.nsIn K mainGlobals "_law_off" = some (some (.ref f__law_off)))
    (n_f__law_deed : PySem.W.nsIn K mainGlobals "_law_deed" = some (some (.ref f__law_deed)))
    (n_f__law_plans : PySem.W.nsIn K mainGlobals "_law_plans" = some (some (.ref f__law_plans)))
    (n_f__law_refused : PySem.W.nsIn K mainGlobals "_law_refused" = some (some (.ref f__law_refused)))
    (n_f__law_no_hall : PySem.W.nsIn K mainGlobals "_law_no_hall" = some (some (.ref f__law_no_hall)))
    (n_f__law_odd : PySem.W.nsIn K mainGlobals "_law_odd" = some (some (.ref f__law_odd)))
    (n_f_law : PySem.W.nsIn K mainGlobals "law" = some (some (.ref f_law)))
    (n_c_Boxes : PySem.W.nsIn K mainGlobals "Boxes" = some (some (.ref C_Boxes)))
    (n_c_Scan : PySem.W.nsIn K mainGlobals "Scan" = some (some (.ref C_Scan)))
    (n_c_Memory : PySem.W.nsIn K mainGlobals "Memory" = some (some (.ref C_Memory)))
    (n_c_Work : PySem.W.nsIn K mainGlobals "Work" = some (some (.ref C_Work)))
    (n_c_One : PySem.W.nsIn K mainGlobals "One" = some (some (.ref C_One)))
    (n_c_Count : PySem.W.nsIn K mainGlobals "Count" = some (some (.ref C_Count)))
    (n_c_Look : PySem.W.nsIn K mainGlobals "Look" = some (some (.ref C_Look)))
    (n_c_Change : PySem.W.nsIn K mainGlobals "Change" = some (some (.ref C_Change)))
    (n_c_Give : PySem.W.nsIn K mainGlobals "Give" = some (some (.ref C_Give)))
    (n_c_Take : PySem.W.nsIn K mainGlobals "Take" = some (some (.ref C_Take)))
    (n_c_Done : PySem.W.nsIn K mainGlobals "Done" = some (some (.ref C_Done)))
    (n_c_Hall : PySem.W.nsIn K mainGlobals "Hall" = some (some (.ref C_Hall)))
    (n_e_HandsError : PySem.W.nsIn K mainGlobals "HandsError" = some (some (.ref e_HandsError)))
    (n_e_NoNumber : PySem.W.nsIn K mainGlobals "NoNumber" = some (some (.ref e_NoNumber)))
    (n_e_NoBox : PySem.W.nsIn K mainGlobals "NoBox" = some (some (.ref e_NoBox)))
    (n_e_NoHand : PySem.W.nsIn K mainGlobals "NoHand" = some (some (.ref e_NoHand)))
    (n_e_NoDeed : PySem.W.nsIn K mainGlobals "NoDeed" = some (some (.ref e_NoDeed)))
    (n_k_MOST_NUMBER : PySem.W.nsIn K mainGlobals "MOST_NUMBER" = some (some (.int 999 gt_MOST_NUMBER)))
    (n_k_WITH_NUMBER : PySem.W.nsIn K mainGlobals "WITH_NUMBER" = some (some (.ref a_WITH_NUMBER)))
    (n_k_ALONE : PySem.W.nsIn K mainGlobals "ALONE" = some (some (.ref a_ALONE)))
    (n_k_BASE : PySem.W.nsIn K mainGlobals "BASE" = some (some (.int 1000000 gt_BASE)))
    (n_k_PLACES : PySem.W.nsIn K mainGlobals "PLACES" = some (some (.ref a_PLACES)))
    (n_k_MOST_HANDS : PySem.W.nsIn K mainGlobals "MOST_HANDS" = some (some (.int 4 gt_MOST_HANDS)))
    (n_k_MOST_DEEDS : PySem.W.nsIn K mainGlobals "MOST_DEEDS" = some (some (.int 40 gt_MOST_DEEDS)))
    (n_k_THINGS : PySem.W.nsIn K mainGlobals "THINGS" = some (some (.int 5 gt_THINGS)))
    (mi_Boxes : PySem.W.findIn K (.ref C_Boxes) "__init__" = some (some (.ref f_Boxes_init)))
    (ma_Boxes_need : PySem.W.findIn K (.ref C_Boxes) "need" = some (some (.ref f_Boxes_need)))
    (ma_Boxes_take : PySem.W.findIn K (.ref C_Boxes) "take" = some (some (.ref f_Boxes_take)))
    (ma_Boxes_put : PySem.W.findIn K (.ref C_Boxes) "put" = some (some (.ref f_Boxes_put)))
    (mi_Scan : PySem.W.findIn K (.ref C_Scan) "__init__" = some (some (.ref f_Scan_init)))
    (ma_Scan_step : PySem.W.findIn K (.ref C_Scan) "step" = some (some (.ref f_Scan_step)))
    (ma_Scan_looked : PySem.W.findIn K (.ref C_Scan) "looked" = some (some (.ref f_Scan_looked)))
    (mi_Memory : PySem.W.findIn K (.ref C_Memory) "__init__" = some (some (.ref f_Memory_init)))
    (mi_Work : PySem.W.findIn K (.ref C_Work) "__init__" = some (some (.ref f_Work_init)))
    (ma_Work_step : PySem.W.findIn K (.ref C_Work) "step" = some (some (.ref f_Work_step)))
    (mi_One : PySem.W.findIn K (.ref C_One) "__init__" = some (some (.ref f_Work_init)))
    (ma_One_step : PySem.W.findIn K (.ref C_One) "step" = some (some (.ref f_One_step)))
    (mi_Count : PySem.W.findIn K (.ref C_Count) "__init__" = some (some (.ref f_Count_init)))
    (ma_Count_step : PySem.W.findIn K (.ref C_Count) "step" = some (some (.ref f_Count_step)))
    (mi_Look : PySem.W.findIn K (.ref C_Look) "__init__" = some (some (.ref f_Look_init)))
    (ma_Look_step : PySem.W.findIn K (.ref C_Look) "step" = some (some (.ref f_Look_step)))
    (mi_Change : PySem.W.findIn K (.ref C_Change) "__init__" = some (some (.ref f_Change_init)))
    (ma_Change_step : PySem.W.findIn K (.ref C_Change) "step" = some (some (.ref f_Change_step)))
    (mi_Give : PySem.W.findIn K (.ref C_Give) "__init__" = some (some (.ref f_Give_init)))
    (ma_Give_step : PySem.W.findIn K (.ref C_Give) "step" = some (some (.ref f_Give_step)))
    (mi_Take : PySem.W.findIn K (.ref C_Take) "__init__" = some (some (.ref f_Take_init)))
    (ma_Take_step : PySem.W.findIn K (.ref C_Take) "step" = some (some (.ref f_Take_step)))
    (ma_Take_rank : PySem.W.findIn K (.ref C_Take) "rank" = some (some (.ref f_Take_rank)))
    (mi_Done : PySem.W.findIn K (.ref C_Done) "__init__" = some (some (.ref f_Done_init)))
    (mi_Hall : PySem.W.findIn K (.ref C_Hall) "__init__" = some (some (.ref f_Hall_init)))
    (ma_Hall_need_hand : PySem.W.findIn K (.ref C_Hall) "need_hand" = some (some (.ref f_Hall_need_hand)))
    (ma_Hall_step : PySem.W.findIn K (.ref C_Hall) "step" = some (some (.ref f_Hall_step)))
    (ma_Hall_records : PySem.W.findIn K (.ref C_Hall) "records" = some (some (.ref f_Hall_records)))
    (l_need_deed : K.lookup f_need_deed = some ⟨oc_need_deed, od_need_deed, .func (PySem.W.fnOf "need_deed" "need_deed" (defArgs s_need_deed) (defBody s_need_deed) (defScope s_need_deed) .none kV_need_deed dc_need_deed pm_need_deed an_need_deed cd_need_deed ct_need_deed), sl_need_deed⟩)
    (l_Boxes_init : K.lookup f_Boxes_init = some ⟨oc_Boxes_init, od_Boxes_init, .func (PySem.W.fnOf "__init__" "Boxes.__init__" (defArgs s_Boxes_init) (defBody s_Boxes_init) (defScope s_Boxes_init) .none kV_Boxes_init dc_Boxes_init pm_Boxes_init an_Boxes_init cd_Boxes_init ct_Boxes_init), sl_Boxes_init⟩)
    (l_Boxes_need : K.lookup f_Boxes_need = some ⟨oc_Boxes_need, od_Boxes_need, .func (PySem.W.fnOf "need" "Boxes.need" (defArgs s_Boxes_need) (defBody s_Boxes_need) (defScope s_Boxes_need) .none kV_Boxes_need dc_Boxes_need pm_Boxes_need an_Boxes_need cd_Boxes_need ct_Boxes_need), sl_Boxes_need⟩)
    (l_Boxes_take : K.lookup f_Boxes_take = some ⟨oc_Boxes_take, od_Boxes_take, .func (PySem.W.fnOf "take" "Boxes.take" (defArgs s_Boxes_take) (defBody s_Boxes_take) (defScope s_Boxes_take) .none kV_Boxes_take dc_Boxes_take pm_Boxes_take an_Boxes_take cd_Boxes_take ct_Boxes_take), sl_Boxes_take⟩)
    (l_Boxes_put : K.lookup f_Boxes_put = some ⟨oc_Boxes_put, od_Boxes_put, .func (PySem.W.fnOf "put" "Boxes.put" (defArgs s_Boxes_put) (defBody s_Boxes_put) (defScope s_Boxes_put) .none kV_Boxes_put dc_Boxes_put pm_Boxes_put an_Boxes_put cd_Boxes_put ct_Boxes_put), sl_Boxes_put⟩)
    (l_packed : K.lookup f_packed = some ⟨oc_packed, od_packed, .func (PySem.W.fnOf "packed" "packed" (defArgs s_packed) (defBody s_packed) (defScope s_packed) .none kV_packed dc_packed pm_packed an_packed cd_packed ct_packed), sl_packed⟩)
    (l_parted : K.lookup f_parted = some ⟨oc_parted, od_parted, .func (PySem.W.fnOf "parted" "parted" (defArgs s_parted) (defBody s_parted) (defScope s_parted) .none kV_parted dc_parted pm_parted an_parted cd_parted ct_parted), sl_parted⟩)
    (l_cell_of : K.lookup f_cell_of = some ⟨oc_cell_of, od_cell_of, .func (PySem.W.fnOf "cell_of" "cell_of" (defArgs s_cell_of) (defBody s_cell_of) (defScope s_cell_of) .none kV_cell_of dc_cell_of pm_cell_of an_cell_of cd_cell_of ct_cell_of), sl_cell_of⟩)
    (l_Scan_init : K.lookup f_Scan_init = some ⟨oc_Scan_init, od_Scan_init, .func (PySem.W.fnOf "__init__" "Scan.__init__" (defArgs s_Scan_init) (defBody s_Scan_init) (defScope s_Scan_init) .none kV_Scan_init dc_Scan_init pm_Scan_init an_Scan_init cd_Scan_init ct_Scan_init), sl_Scan_init⟩)
    (l_Scan_step : K.lookup f_Scan_step = some ⟨oc_Scan_step, od_Scan_step, .func (PySem.W.fnOf "step" "Scan.step" (defArgs s_Scan_step) (defBody s_Scan_step) (defScope s_Scan_step) .none kV_Scan_step dc_Scan_step pm_Scan_step an_Scan_step cd_Scan_step ct_Scan_step), sl_Scan_step⟩)
    (l_Scan_looked : K.lookup f_Scan_looked = some ⟨oc_Scan_looked, od_Scan_looked, .func (PySem.W.fnOf "looked" "Scan.looked" (defArgs s_Scan_looked) (defBody s_Scan_looked) (defScope s_Scan_looked) .none kV_Scan_looked dc_Scan_looked pm_Scan_looked an_Scan_looked cd_Scan_looked ct_Scan_looked), sl_Scan_looked⟩)
    (l_Memory_init : K.lookup f_Memory_init = some ⟨oc_Memory_init, od_Memory_init, .func (PySem.W.fnOf "__init__" "Memory.__init__" (defArgs s_Memory_init) (defBody s_Memory_init) (defScope s_Memory_init) .none kV_Memory_init dc_Memory_init pm_Memory_init an_Memory_init cd_Memory_init ct_Memory_init), sl_Memory_init⟩)
    (l_Work_init : K.lookup f_Work_init = some ⟨oc_Work_init, od_Work_init, .func (PySem.W.fnOf "__init__" "Work.__init__" (defArgs s_Work_init) (defBody s_Work_init) (defScope s_Work_init) .none kV_Work_init dc_Work_init pm_Work_init an_Work_init cd_Work_init ct_Work_init), sl_Work_init⟩)
    (l_Work_step : K.lookup f_Work_step = some ⟨oc_Work_step, od_Work_step, .func (PySem.W.fnOf "step" "Work.step" (defArgs s_Work_step) (defBody s_Work_step) (defScope s_Work_step) .none kV_Work_step dc_Work_step pm_Work_step an_Work_step cd_Work_step ct_Work_step), sl_Work_step⟩)
    (l_One_step : K.lookup f_One_step = some ⟨oc_One_step, od_One_step, .func (PySem.W.fnOf "step" "One.step" (defArgs s_One_step) (defBody s_One_step) (defScope s_One_step) .none kV_One_step dc_One_step pm_One_step an_One_step cd_One_step ct_One_step), sl_One_step⟩)
    (l_Count_init : K.lookup f_Count_init = some ⟨oc_Count_init, od_Count_init, .func (PySem.W.fnOf "__init__" "Count.__init__" (defArgs s_Count_init) (defBody s_Count_init) (defScope s_Count_init) .none kV_Count_init dc_Count_init pm_Count_init an_Count_init cd_Count_init ct_Count_init), sl_Count_init⟩)
    (l_Count_step : K.lookup f_Count_step = some ⟨oc_Count_step, od_Count_step, .func (PySem.W.fnOf "step" "Count.step" (defArgs s_Count_step) (defBody s_Count_step) (defScope s_Count_step) .none kV_Count_step dc_Count_step pm_Count_step an_Count_step cd_Count_step ct_Count_step), sl_Count_step⟩)
    (l_Look_init : K.lookup f_Look_init = some ⟨oc_Look_init, od_Look_init, .func (PySem.W.fnOf "__init__" "Look.__init__" (defArgs s_Look_init) (defBody s_Look_init) (defScope s_Look_init) .none kV_Look_init dc_Look_init pm_Look_init an_Look_init cd_Look_init ct_Look_init), sl_Look_init⟩)
    (l_Look_step : K.lookup f_Look_step = some ⟨oc_Look_step, od_Look_step, .func (PySem.W.fnOf "step" "Look.step" (defArgs s_Look_step) (defBody s_Look_step) (defScope s_Look_step) .none kV_Look_step dc_Look_step pm_Look_step an_Look_step cd_Look_step ct_Look_step), sl_Look_step⟩)
    (l_Change_init : K.lookup f_Change_init = some ⟨oc_Change_init, od_Change_init, .func (PySem.W.fnOf "__init__" "Change.__init__" (defArgs s_Change_init) (defBody s_Change_init) (defScope s_Change_init) .none kV_Change_init dc_Change_init pm_Change_init an_Change_init cd_Change_init ct_Change_init), sl_Change_init⟩)
    (l_Change_step : K.lookup f_Change_step = some ⟨oc_Change_step, od_Change_step, .func (PySem.W.fnOf "step" "Change.step" (defArgs s_Change_step) (defBody s_Change_step) (defScope s_Change_step) .none kV_Change_step dc_Change_step pm_Change_step an_Change_step cd_Change_step ct_Change_step), sl_Change_step⟩)
    (l_Give_init : K.lookup f_Give_init = some ⟨oc_Give_init, od_Give_init, .func (PySem.W.fnOf "__init__" "Give.__init__" (defArgs s_Give_init) (defBody s_Give_init) (defScope s_Give_init) .none kV_Give_init dc_Give_init pm_Give_init an_Give_init cd_Give_init ct_Give_init), sl_Give_init⟩)
    (l_Give_step : K.lookup f_Give_step = some ⟨oc_Give_step, od_Give_step, .func (PySem.W.fnOf "step" "Give.step" (defArgs s_Give_step) (defBody s_Give_step) (defScope s_Give_step) .none kV_Give_step dc_Give_step pm_Give_step an_Give_step cd_Give_step ct_Give_step), sl_Give_step⟩)
    (l_Take_init : K.lookup f_Take_init = some ⟨oc_Take_init, od_Take_init, .func (PySem.W.fnOf "__init__" "Take.__init__" (defArgs s_Take_init) (defBody s_Take_init) (defScope s_Take_init) .none kV_Take_init dc_Take_init pm_Take_init an_Take_init cd_Take_init ct_Take_init), sl_Take_init⟩)
    (l_Take_step : K.lookup f_Take_step = some ⟨oc_Take_step, od_Take_step, .func (PySem.W.fnOf "step" "Take.step" (defArgs s_Take_step) (defBody s_Take_step) (defScope s_Take_step) .none kV_Take_step dc_Take_step pm_Take_step an_Take_step cd_Take_step ct_Take_step), sl_Take_step⟩)
    (l_Take_rank : K.lookup f_Take_rank = some ⟨oc_Take_rank, od_Take_rank, .func (PySem.W.fnOf "rank" "Take.rank" (defArgs s_Take_rank) (defBody s_Take_rank) (defScope s_Take_rank) .none kV_Take_rank dc_Take_rank pm_Take_rank an_Take_rank cd_Take_rank ct_Take_rank), sl_Take_rank⟩)
    (l_work_of : K.lookup f_work_of = some ⟨oc_work_of, od_work_of, .func (PySem.W.fnOf "work_of" "work_of" (defArgs s_work_of) (defBody s_work_of) (defScope s_work_of) .none kV_work_of dc_work_of pm_work_of an_work_of cd_work_of ct_work_of), sl_work_of⟩)
    (l_Done_init : K.lookup f_Done_init = some ⟨oc_Done_init, od_Done_init, .func (PySem.W.fnOf "__init__" "Done.__init__" (defArgs s_Done_init) (defBody s_Done_init) (defScope s_Done_init) .none kV_Done_init dc_Done_init pm_Done_init an_Done_init cd_Done_init ct_Done_init), sl_Done_init⟩)
    (l_Hall_init : K.lookup f_Hall_init = some ⟨oc_Hall_init, od_Hall_init, .func (PySem.W.fnOf "__init__" "Hall.__init__" (defArgs s_Hall_init) (defBody s_Hall_init) (defScope s_Hall_init) .none kV_Hall_init dc_Hall_init pm_Hall_init an_Hall_init cd_Hall_init ct_Hall_init), sl_Hall_init⟩)
    (l_Hall_need_hand : K.lookup f_Hall_need_hand = some ⟨oc_Hall_need_hand, od_Hall_need_hand, .func (PySem.W.fnOf "need_hand" "Hall.need_hand" (defArgs s_Hall_need_hand) (defBody s_Hall_need_hand) (defScope s_Hall_need_hand) .none kV_Hall_need_hand dc_Hall_need_hand pm_Hall_need_hand an_Hall_need_hand cd_Hall_need_hand ct_Hall_need_hand), sl_Hall_need_hand⟩)
    (l_Hall_step : K.lookup f_Hall_step = some ⟨oc_Hall_step, od_Hall_step, .func (PySem.W.fnOf "step" "Hall.step" (defArgs s_Hall_step) (defBody s_Hall_step) (defScope s_Hall_step) .none kV_Hall_step dc_Hall_step pm_Hall_step an_Hall_step cd_Hall_step ct_Hall_step), sl_Hall_step⟩)
    (l_Hall_records : K.lookup f_Hall_records = some ⟨oc_Hall_records, od_Hall_records, .func (PySem.W.fnOf "records" "Hall.records" (defArgs s_Hall_records) (defBody s_Hall_records) (defScope s_Hall_records) .none kV_Hall_records dc_Hall_records pm_Hall_records an_Hall_records cd_Hall_records ct_Hall_records), sl_Hall_records⟩)
    (l__law_cell : K.lookup f__law_cell = some ⟨oc__law_cell, od__law_cell, .func (PySem.W.fnOf "_law_cell" "_law_cell" (defArgs s__law_cell) (defBody s__law_cell) (defScope s__law_cell) .none kV__law_cell dc__law_cell pm__law_cell an__law_cell cd__law_cell ct__law_cell), sl__law_cell⟩)
    (l__law_dice : K.lookup f__law_dice = some ⟨oc__law_dice, od__law_dice, .func (PySem.W.fnOf "_law_dice" "_law_dice" (defArgs s__law_dice) (defBody s__law_dice) (defScope s__law_dice) .none kV__law_dice dc__law_dice pm__law_dice an__law_dice cd__law_dice ct__law_dice), sl__law_dice⟩)
    (l__law_off : K.lookup f__law_off = some ⟨oc__law_off, od__law_off, .func (PySem.W.fnOf "_law_off" "_law_off" (defArgs s__law_off) (defBody s__law_off) (defScope s__law_off) .none kV__law_off dc__law_off pm__law_off an__law_off cd__law_off ct__law_off), sl__law_off⟩)
    (l__law_deed : K.lookup f__law_deed = some ⟨oc__law_deed, od__law_deed, .func (PySem.W.fnOf "_law_deed" "_law_deed" (defArgs s__law_deed) (defBody s__law_deed) (defScope s__law_deed) .none kV__law_deed dc__law_deed pm__law_deed an__law_deed cd__law_deed ct__law_deed), sl__law_deed⟩)
    (l__law_plans : K.lookup f__law_plans = some ⟨oc__law_plans, od__law_plans, .func (PySem.W.fnOf "_law_plans" "_law_plans" (defArgs s__law_plans) (defBody s__law_plans) (defScope s__law_plans) .none kV__law_plans dc__law_plans pm__law_plans an__law_plans cd__law_plans ct__law_plans), sl__law_plans⟩)
    (l__law_refused : K.lookup f__law_refused = some ⟨oc__law_refused, od__law_refused, .func (PySem.W.fnOf "_law_refused" "_law_refused" (defArgs s__law_refused) (defBody s__law_refused) (defScope s__law_refused) .none kV__law_refused dc__law_refused pm__law_refused an__law_refused cd__law_refused ct__law_refused), sl__law_refused⟩)
    (l__law_no_hall : K.lookup f__law_no_hall = some ⟨oc__law_no_hall, od__law_no_hall, .func (PySem.W.fnOf "_law_no_hall" "_law_no_hall" (defArgs s__law_no_hall) (defBody s__law_no_hall) (defScope s__law_no_hall) .none kV__law_no_hall dc__law_no_hall pm__law_no_hall an__law_no_hall cd__law_no_hall ct__law_no_hall), sl__law_no_hall⟩)
    (l__law_odd : K.lookup f__law_odd = some ⟨oc__law_odd, od__law_odd, .func (PySem.W.fnOf "_law_odd" "_law_odd" (defArgs s__law_odd) (defBody s__law_odd) (defScope s__law_odd) .none kV__law_odd dc__law_odd pm__law_odd an__law_odd cd__law_odd ct__law_odd), sl__law_odd⟩)
    (l_law : K.lookup f_law = some ⟨oc_law, od_law, .func (PySem.W.fnOf "law" "law" (defArgs s_law) (defBody s_law) (defScope s_law) .none kV_law dc_law pm_law an_law cd_law ct_law), sl_law⟩)
    (l_k_WITH_NUMBER : K.lookup a_WITH_NUMBER = some ⟨.type "tuple", oc_WITH_NUMBER, .seq #[.str "set" tk_WITH_NUMBER_0, .str "add" tk_WITH_NUMBER_1, .str "raise" tk_WITH_NUMBER_2, .str "give" tk_WITH_NUMBER_3] nn_WITH_NUMBER, sl_WITH_NUMBER⟩)
    (l_k_ALONE : K.lookup a_ALONE = some ⟨.type "tuple", oc_ALONE, .seq #[.str "one" tk_ALONE_0, .str "count" tk_ALONE_1, .str "look" tk_ALONE_2, .str "sum" tk_ALONE_3, .str "top" tk_ALONE_4, .str "take" tk_ALONE_5] nn_ALONE, sl_ALONE⟩)
    (l_k_PLACES : K.lookup a_PLACES = some ⟨.type "dict", none, .dict es_PLACES nn_PLACES, #[]⟩)
    (c_need_deed : PySem.W.codeIn K cd_need_deed "need_deed" = true)
    (kk_need_deed : PySem.W.keepIn K (.ref f_need_deed) = true)
    (c_Boxes_init : PySem.W.codeIn K cd_Boxes_init "Boxes.__init__" = true)
    (kk_Boxes_init : PySem.W.keepIn K (.ref f_Boxes_init) = true)
    (c_Boxes_need : PySem.W.codeIn K cd_Boxes_need "Boxes.need" = true)
    (kk_Boxes_need : PySem.W.keepIn K (.ref f_Boxes_need) = true)
    (c_Boxes_take : PySem.W.codeIn K cd_Boxes_take "Boxes.take" = true)
    (kk_Boxes_take : PySem.W.keepIn K (.ref f_Boxes_take) = true)
    (c_Boxes_put : PySem.W.codeIn K cd_Boxes_put "Boxes.put" = true)
    (kk_Boxes_put : PySem.W.keepIn K (.ref f_Boxes_put) = true)
    (c_packed : PySem.W.codeIn K cd_packed "packed" = true)
    (kk_packed : PySem.W.keepIn K (.ref f_packed) = true)
    (c_parted : PySem.W.codeIn K cd_parted "parted" = true)
    (kk_parted : PySem.W.keepIn K (.ref f_parted) = true)
    (c_cell_of : PySem.W.codeIn K cd_cell_of "cell_of" = true)
    (kk_cell_of : PySem.W.keepIn K (.ref f_cell_of) = true)
    (c_Scan_init : PySem.W.codeIn K cd_Scan_init "Scan.__init__" = true)
    (kk_Scan_init : PySem.W.keepIn K (.ref f_Scan_init) = true)
    (c_Scan_step : PySem.W.codeIn K cd_Scan_step "Scan.step" = true)
    (kk_Scan_step : PySem.W.keepIn K (.ref f_Scan_step) = true)
    (c_Scan_looked : PySem.W.codeIn K cd_Scan_looked "Scan.looked" = true)
    (kk_Scan_looked : PySem.W.keepIn K (.ref f_Scan_looked) = true)
    (c_Memory_init : PySem.W.codeIn K cd_Memory_init "Memory.__init__" = true)
    (kk_Memory_init : PySem.W.keepIn K (.ref f_Memory_init) = true)
    (c_Work_init : PySem.W.codeIn K cd_Work_init "Work.__init__" = true)
    (kk_Work_init : PySem.W.keepIn K (.ref f_Work_init) = true)
    (c_Work_step : PySem.W.codeIn K cd_Work_step "Work.step" = true)
    (kk_Work_step : PySem.W.keepIn K (.ref f_Work_step) = true)
    (c_One_step : PySem.W.codeIn K cd_One_step "One.step" = true)
    (kk_One_step : PySem.W.keepIn K (.ref f_One_step) = true)
    (c_Count_init : PySem.W.codeIn K cd_Count_init "Count.__init__" = true)
    (kk_Count_init : PySem.W.keepIn K (.ref f_Count_init) = true)
    (c_Count_step : PySem.W.codeIn K cd_Count_step "Count.step" = true)
    (kk_Count_step : PySem.W.keepIn K (.ref f_Count_step) = true)
    (c_Look_init : PySem.W.codeIn K cd_Look_init "Look.__init__" = true)
    (kk_Look_init : PySem.W.keepIn K (.ref f_Look_init) = true)
    (c_Look_step : PySem.W.codeIn K cd_Look_step "Look.step" = true)
    (kk_Look_step : PySem.W.keepIn K (.ref f_Look_step) = true)
    (c_Change_init : PySem.W.codeIn K cd_Change_init "Change.__init__" = true)
    (kk_Change_init : PySem.W.keepIn K (.ref f_Change_init) = true)
    (c_Change_step : PySem.W.codeIn K cd_Change_step "Change.step" = true)
    (kk_Change_step : PySem.W.keepIn K (.ref f_Change_step) = true)
    (c_Give_init : PySem.W.codeIn K cd_Give_init "Give.__init__" = true)
    (kk_Give_init : PySem.W.keepIn K (.ref f_Give_init) = true)
    (c_Give_step : PySem.W.codeIn K cd_Give_step "Give.step" = true)
    (kk_Give_step : PySem.W.keepIn K (.ref f_Give_step) = true)
    (c_Take_init : PySem.W.codeIn K cd_Take_init "Take.__init__" = true)
    (kk_Take_init : PySem.W.keepIn K (.ref f_Take_init) = true)
    (c_Take_step : PySem.W.codeIn K cd_Take_step "Take.step" = true)
    (kk_Take_step : PySem.W.keepIn K (.ref f_Take_step) = true)
    (c_Take_rank : PySem.W.codeIn K cd_Take_rank "Take.rank" = true)
    (kk_Take_rank : PySem.W.keepIn K (.ref f_Take_rank) = true)
    (c_work_of : PySem.W.codeIn K cd_work_of "work_of" = true)
    (kk_work_of : PySem.W.keepIn K (.ref f_work_of) = true)
    (c_Done_init : PySem.W.codeIn K cd_Done_init "Done.__init__" = true)
    (kk_Done_init : PySem.W.keepIn K (.ref f_Done_init) = true)
    (c_Hall_init : PySem.W.codeIn K cd_Hall_init "Hall.__init__" = true)
    (kk_Hall_init : PySem.W.keepIn K (.ref f_Hall_init) = true)
    (c_Hall_need_hand : PySem.W.codeIn K cd_Hall_need_hand "Hall.need_hand" = true)
    (kk_Hall_need_hand : PySem.W.keepIn K (.ref f_Hall_need_hand) = true)
    (c_Hall_step : PySem.W.codeIn K cd_Hall_step "Hall.step" = true)
    (kk_Hall_step : PySem.W.keepIn K (.ref f_Hall_step) = true)
    (c_Hall_records : PySem.W.codeIn K cd_Hall_records "Hall.records" = true)
    (kk_Hall_records : PySem.W.keepIn K (.ref f_Hall_records) = true)
    (c__law_cell : PySem.W.codeIn K cd__law_cell "_law_cell" = true)
    (kk__law_cell : PySem.W.keepIn K (.ref f__law_cell) = true)
    (c__law_dice : PySem.W.codeIn K cd__law_dice "_law_dice" = true)
    (kk__law_dice : PySem.W.keepIn K (.ref f__law_dice) = true)
    (c__law_off : PySem.W.codeIn K cd__law_off "_law_off" = true)
    (kk__law_off : PySem.W.keepIn K (.ref f__law_off) = true)
    (c__law_deed : PySem.W.codeIn K cd__law_deed "_law_deed" = true)
    (kk__law_deed : PySem.W.keepIn K (.ref f__law_deed) = true)
    (c__law_plans : PySem.W.codeIn K cd__law_plans "_law_plans" = true)
    (kk__law_plans : PySem.W.keepIn K (.ref f__law_plans) = true)
    (c__law_refused : PySem.W.codeIn K cd__law_refused "_law_refused" = true)
    (kk__law_refused : PySem.W.keepIn K (.ref f__law_refused) = true)
    (c__law_no_hall : PySem.W.codeIn K cd__law_no_hall "_law_no_hall" = true)
    (kk__law_no_hall : PySem.W.keepIn K (.ref f__law_no_hall) = true)
    (c__law_odd : PySem.W.codeIn K cd__law_odd "_law_odd" = true)
    (kk__law_odd : PySem.W.keepIn K (.ref f__law_odd) = true)
    (c_law : PySem.W.codeIn K cd_law "law" = true)
    (kk_law : PySem.W.keepIn K (.ref f_law) = true)
    (pg_Boxes : PySem.W.plainGet K C_Boxes Str.empty = true)
    (hd_Boxes : PySem.W.hasDictIn K C_Boxes = true)
    (po_Boxes : PySem.W.plainOver K C_Boxes = true)
    (sa_Boxes : PySem.W.findIn K (.ref C_Boxes) "__setattr__" = some (some (.builtin "object.__setattr__")))
    (kc_Boxes : PySem.W.keepIn K (.ref C_Boxes) = true)
    (no_Boxes_0 : PySem.W.findIn K (.ref C_Boxes) "many" = some none)
    (no_Boxes_1 : PySem.W.findIn K (.ref C_Boxes) "numbers" = some none)
    (no_Boxes_2 : PySem.W.findIn K (.ref C_Boxes) "log" = some none)
    (mk_Boxes : PySem.W.makesIn K C_Boxes = true)
    (if_Boxes : PySem.W.isFn K (.ref f_Boxes_init) = true)
    (mf_Boxes_need : PySem.W.isFn K (.ref f_Boxes_need) = true)
    (mf_Boxes_take : PySem.W.isFn K (.ref f_Boxes_take) = true)
    (mf_Boxes_put : PySem.W.isFn K (.ref f_Boxes_put) = true)
    (pg_Scan : PySem.W.plainGet K C_Scan Str.empty = true)
    (hd_Scan : PySem.W.hasDictIn K C_Scan = true)
    (po_Scan : PySem.W.plainOver K C_Scan = true)
    (sa_Scan : PySem.W.findIn K (.ref C_Scan) "__setattr__" = some (some (.builtin "object.__setattr__")))
    (kc_Scan : PySem.W.keepIn K (.ref C_Scan) = true)
    (no_Scan_0 : PySem.W.findIn K (.ref C_Scan) "first" = some none)
    (no_Scan_1 : PySem.W.findIn K (.ref C_Scan) "many" = some none)
    (no_Scan_2 : PySem.W.findIn K (.ref C_Scan) "ahead" = some none)
    (no_Scan_3 : PySem.W.findIn K (.ref C_Scan) "row" = some none)
    (no_Scan_4 : PySem.W.findIn K (.ref C_Scan) "moved" = some none)
    (no_Scan_5 : PySem.W.findIn K (.ref C_Scan) "until" = some none)
    (no_Scan_6 : PySem.W.findIn K (.ref C_Scan) "view" = some none)
    (no_Scan_7 : PySem.W.findIn K (.ref C_Scan) "moment" = some none)
    (mk_Scan : PySem.W.makesIn K C_Scan = true)
    (if_Scan : PySem.W.isFn K (.ref f_Scan_init) = true)
    (mf_Scan_step : PySem.W.isFn K (.ref f_Scan_step) = true)
    (mf_Scan_looked : PySem.W.isFn K (.ref f_Scan_looked) = true)
    (pg_Memory : PySem.W.plainGet K C_Memory Str.empty = true)
    (hd_Memory : PySem.W.hasDictIn K C_Memory = true)
    (po_Memory : PySem.W.plainOver K C_Memory = true)
    (sa_Memory : PySem.W.findIn K (.ref C_Memory) "__setattr__" = some (some (.builtin "object.__setattr__")))
    (kc_Memory : PySem.W.keepIn K (.ref C_Memory) = true)
    (no_Memory_0 : PySem.W.findIn K (.ref C_Memory) "ones" = some none)
    (no_Memory_1 : PySem.W.findIn K (.ref C_Memory) "puts" = some none)
    (no_Memory_2 : PySem.W.findIn K (.ref C_Memory) "cells" = some none)
    (no_Memory_3 : PySem.W.findIn K (.ref C_Memory) "gifts" = some none)
    (no_Memory_4 : PySem.W.findIn K (.ref C_Memory) "took" = some none)
    (mk_Memory : PySem.W.makesIn K C_Memory = true)
    (if_Memory : PySem.W.isFn K (.ref f_Memory_init) = true)
    (pg_Work : PySem.W.plainGet K C_Work Str.empty = true)
    (hd_Work : PySem.W.hasDictIn K C_Work = true)
    (po_Work : PySem.W.plainOver K C_Work = true)
    (sa_Work : PySem.W.findIn K (.ref C_Work) "__setattr__" = some (some (.builtin "object.__setattr__")))
    (kc_Work : PySem.W.keepIn K (.ref C_Work) = true)
    (no_Work_0 : PySem.W.findIn K (.ref C_Work) "deed" = some none)
    (no_Work_1 : PySem.W.findIn K (.ref C_Work) "hand" = some none)
    (no_Work_2 : PySem.W.findIn K (.ref C_Work) "memory" = some none)
    (no_Work_3 : PySem.W.findIn K (.ref C_Work) "first" = some none)
    (no_Work_4 : PySem.W.findIn K (.ref C_Work) "many" = some none)
    (no_Work_5 : PySem.W.findIn K (.ref C_Work) "answer" = some none)
    (no_Work_6 : PySem.W.findIn K (.ref C_Work) "moment" = some none)
    (no_Work_7 : PySem.W.findIn K (.ref C_Work) "stamp" = some none)
    (no_Work_8 : PySem.W.findIn K (.ref C_Work) "giver" = some none)
    (no_Work_9 : PySem.W.findIn K (.ref C_Work) "nth" = some none)
    (mk_Work : PySem.W.makesIn K C_Work = true)
    (if_Work : PySem.W.isFn K (.ref f_Work_init) = true)
    (mf_Work_step : PySem.W.isFn K (.ref f_Work_step) = true)
    (pg_One : PySem.W.plainGet K C_One Str.empty = true)
    (hd_One : PySem.W.hasDictIn K C_One = true)
    (po_One : PySem.W.plainOver K C_One = true)
    (sa_One : PySem.W.findIn K (.ref C_One) "__setattr__" = some (some (.builtin "object.__setattr__")))
    (kc_One : PySem.W.keepIn K (.ref C_One) = true)
    (no_One_0 : PySem.W.findIn K (.ref C_One) "deed" = some none)
    (no_One_1 : PySem.W.findIn K (.ref C_One) "hand" = some none)
    (no_One_2 : PySem.W.findIn K (.ref C_One) "memory" = some none)
    (no_One_3 : PySem.W.findIn K (.ref C_One) "first" = some none)
    (no_One_4 : PySem.W.findIn K (.ref C_One) "many" = some none)
    (no_One_5 : PySem.W.findIn K (.ref C_One) "answer" = some none)
    (no_One_6 : PySem.W.findIn K (.ref C_One) "moment" = some none)
    (no_One_7 : PySem.W.findIn K (.ref C_One) "stamp" = some none)
    (no_One_8 : PySem.W.findIn K (.ref C_One) "giver" = some none)
    (no_One_9 : PySem.W.findIn K (.ref C_One) "nth" = some none)
    (mk_One : PySem.W.makesIn K C_One = true)
    (if_One : PySem.W.isFn K (.ref f_Work_init) = true)
    (mf_One_step : PySem.W.isFn K (.ref f_One_step) = true)
    (pg_Count : PySem.W.plainGet K C_Count Str.empty = true)
    (hd_Count : PySem.W.hasDictIn K C_Count = true)
    (po_Count : PySem.W.plainOver K C_Count = true)
    (sa_Count : PySem.W.findIn K (.ref C_Count) "__setattr__" = some (some (.builtin "object.__setattr__")))
    (kc_Count : PySem.W.keepIn K (.ref C_Count) = true)
    (no_Count_0 : PySem.W.findIn K (.ref C_Count) "deed" = some none)
    (no_Count_1 : PySem.W.findIn K (.ref C_Count) "hand" = some none)
    (no_Count_2 : PySem.W.findIn K (.ref C_Count) "memory" = some none)
    (no_Count_3 : PySem.W.findIn K (.ref C_Count) "first" = some none)
    (no_Count_4 : PySem.W.findIn K (.ref C_Count) "many" = some none)
    (no_Count_5 : PySem.W.findIn K (.ref C_Count) "answer" = some none)
    (no_Count_6 : PySem.W.findIn K (.ref C_Count) "moment" = some none)
    (no_Count_7 : PySem.W.findIn K (.ref C_Count) "stamp" = some none)
    (no_Count_8 : PySem.W.findIn K (.ref C_Count) "giver" = some none)
    (no_Count_9 : PySem.W.findIn K (.ref C_Count) "nth" = some none)
    (no_Count_10 : PySem.W.findIn K (.ref C_Count) "row" = some none)
    (mk_Count : PySem.W.makesIn K C_Count = true)
    (if_Count : PySem.W.isFn K (.ref f_Count_init) = true)
    (mf_Count_step : PySem.W.isFn K (.ref f_Count_step) = true)
    (pg_Look : PySem.W.plainGet K C_Look Str.empty = true)
    (hd_Look : PySem.W.hasDictIn K C_Look = true)
    (po_Look : PySem.W.plainOver K C_Look = true)
    (sa_Look : PySem.W.findIn K (.ref C_Look) "__setattr__" = some (some (.builtin "object.__setattr__")))
    (kc_Look : PySem.W.keepIn K (.ref C_Look) = true)
    (no_Look_0 : PySem.W.findIn K (.ref C_Look) "deed" = some none)
    (no_Look_1 : PySem.W.findIn K (.ref C_Look) "hand" = some none)
    (no_Look_2 : PySem.W.findIn K (.ref C_Look) "memory" = some none)
    (no_Look_3 : PySem.W.findIn K (.ref C_Look) "first" = some none)
    (no_Look_4 : PySem.W.findIn K (.ref C_Look) "many" = some none)
    (no_Look_5 : PySem.W.findIn K (.ref C_Look) "answer" = some none)
    (no_Look_6 : PySem.W.findIn K (.ref C_Look) "moment" = some none)
    (no_Look_7 : PySem.W.findIn K (.ref C_Look) "stamp" = some none)
    (no_Look_8 : PySem.W.findIn K (.ref C_Look) "giver" = some none)
    (no_Look_9 : PySem.W.findIn K (.ref C_Look) "nth" = some none)
    (no_Look_10 : PySem.W.findIn K (.ref C_Look) "scan" = some none)
    (mk_Look : PySem.W.makesIn K C_Look = true)
    (if_Look : PySem.W.isFn K (.ref f_Look_init) = true)
    (mf_Look_step : PySem.W.isFn K (.ref f_Look_step) = true)
    (pg_Change : PySem.W.plainGet K C_Change Str.empty = true)
    (hd_Change : PySem.W.hasDictIn K C_Change = true)
    (po_Change : PySem.W.plainOver K C_Change = true)
    (sa_Change : PySem.W.findIn K (.ref C_Change) "__setattr__" = some (some (.builtin "object.__setattr__")))
    (kc_Change : PySem.W.keepIn K (.ref C_Change) = true)
    (no_Change_0 : PySem.W.findIn K (.ref C_Change) "deed" = some none)
    (no_Change_1 : PySem.W.findIn K (.ref C_Change) "hand" = some none)
    (no_Change_2 : PySem.W.findIn K (.ref C_Change) "memory" = some none)
    (no_Change_3 : PySem.W.findIn K (.ref C_Change) "first" = some none)
    (no_Change_4 : PySem.W.findIn K (.ref C_Change) "many" = some none)
    (no_Change_5 : PySem.W.findIn K (.ref C_Change) "answer" = some none)
    (no_Change_6 : PySem.W.findIn K (.ref C_Change) "moment" = some none)
    (no_Change_7 : PySem.W.findIn K (.ref C_Change) "stamp" = some none)
    (no_Change_8 : PySem.W.findIn K (.ref C_Change) "giver" = some none)
    (no_Change_9 : PySem.W.findIn K (.ref C_Change) "nth" = some none)
    (no_Change_10 : PySem.W.findIn K (.ref C_Change) "scan" = some none)
    (mk_Change : PySem.W.makesIn K C_Change = true)
    (if_Change : PySem.W.isFn K (.ref f_Change_init) = true)
    (mf_Change_step : PySem.W.isFn K (.ref f_Change_step) = true)
    (pg_Give : PySem.W.plainGet K C_Give Str.empty = true)
    (hd_Give : PySem.W.hasDictIn K C_Give = true)
    (po_Give : PySem.W.plainOver K C_Give = true)
    (sa_Give : PySem.W.findIn K (.ref C_Give) "__setattr__" = some (some (.builtin "object.__setattr__")))
    (kc_Give : PySem.W.keepIn K (.ref C_Give) = true)
    (no_Give_0 : PySem.W.findIn K (.ref C_Give) "deed" = some none)
    (no_Give_1 : PySem.W.findIn K (.ref C_Give) "hand" = some none)
    (no_Give_2 : PySem.W.findIn K (.ref C_Give) "memory" = some none)
    (no_Give_3 : PySem.W.findIn K (.ref C_Give) "first" = some none)
    (no_Give_4 : PySem.W.findIn K (.ref C_Give) "many" = some none)
    (no_Give_5 : PySem.W.findIn K (.ref C_Give) "answer" = some none)
    (no_Give_6 : PySem.W.findIn K (.ref C_Give) "moment" = some none)
    (no_Give_7 : PySem.W.findIn K (.ref C_Give) "stamp" = some none)
    (no_Give_8 : PySem.W.findIn K (.ref C_Give) "giver" = some none)
    (no_Give_9 : PySem.W.findIn K (.ref C_Give) "nth" = some none)
    (no_Give_10 : PySem.W.findIn K (.ref C_Give) "read" = some none)
    (mk_Give : PySem.W.makesIn K C_Give = true)
    (if_Give : PySem.W.isFn K (.ref f_Give_init) = true)
    (mf_Give_step : PySem.W.isFn K (.ref f_Give_step) = true)
    (pg_Take : PySem.W.plainGet K C_Take Str.empty = true)
    (hd_Take : PySem.W.hasDictIn K C_Take = true)
    (po_Take : PySem.W.plainOver K C_Take = true)
    (sa_Take : PySem.W.findIn K (.ref C_Take) "__setattr__" = some (some (.builtin "object.__setattr__")))
    (kc_Take : PySem.W.keepIn K (.ref C_Take) = true)
    (no_Take_0 : PySem.W.findIn K (.ref C_Take) "deed" = some none)
    (no_Take_1 : PySem.W.findIn K (.ref C_Take) "hand" = some none)
    (no_Take_2 : PySem.W.findIn K (.ref C_Take) "memory" = some none)
    (no_Take_3 : PySem.W.findIn K (.ref C_Take) "first" = some none)
    (no_Take_4 : PySem.W.findIn K (.ref C_Take) "many" = some none)
    (no_Take_5 : PySem.W.findIn K (.ref C_Take) "answer" = some none)
    (no_Take_6 : PySem.W.findIn K (.ref C_Take) "moment" = some none)
    (no_Take_7 : PySem.W.findIn K (.ref C_Take) "stamp" = some none)
    (no_Take_8 : PySem.W.findIn K (.ref C_Take) "giver" = some none)
    (no_Take_9 : PySem.W.findIn K (.ref C_Take) "nth" = some none)
    (no_Take_10 : PySem.W.findIn K (.ref C_Take) "rows" = some none)
    (no_Take_11 : PySem.W.findIn K (.ref C_Take) "again" = some none)
    (mk_Take : PySem.W.makesIn K C_Take = true)
    (if_Take : PySem.W.isFn K (.ref f_Take_init) = true)
    (mf_Take_step : PySem.W.isFn K (.ref f_Take_step) = true)
    (mf_Take_rank : PySem.W.isFn K (.ref f_Take_rank) = true)
    (pg_Done : PySem.W.plainGet K C_Done Str.empty = true)
    (hd_Done : PySem.W.hasDictIn K C_Done = true)
    (po_Done : PySem.W.plainOver K C_Done = true)
    (sa_Done : PySem.W.findIn K (.ref C_Done) "__setattr__" = some (some (.builtin "object.__setattr__")))
    (kc_Done : PySem.W.keepIn K (.ref C_Done) = true)
    (no_Done_0 : PySem.W.findIn K (.ref C_Done) "work" = some none)
    (no_Done_1 : PySem.W.findIn K (.ref C_Done) "begin" = some none)
    (no_Done_2 : PySem.W.findIn K (.ref C_Done) "end" = some none)
    (mk_Done : PySem.W.makesIn K C_Done = true)
    (if_Done : PySem.W.isFn K (.ref f_Done_init) = true)
    (pg_Hall : PySem.W.plainGet K C_Hall Str.empty = true)
    (hd_Hall : PySem.W.hasDictIn K C_Hall = true)
    (po_Hall : PySem.W.plainOver K C_Hall = true)
    (sa_Hall : PySem.W.findIn K (.ref C_Hall) "__setattr__" = some (some (.builtin "object.__setattr__")))
    (kc_Hall : PySem.W.keepIn K (.ref C_Hall) = true)
    (no_Hall_0 : PySem.W.findIn K (.ref C_Hall) "many" = some none)
    (no_Hall_1 : PySem.W.findIn K (.ref C_Hall) "plans" = some none)
    (no_Hall_2 : PySem.W.findIn K (.ref C_Hall) "boxes" = some none)
    (no_Hall_3 : PySem.W.findIn K (.ref C_Hall) "memories" = some none)
    (no_Hall_4 : PySem.W.findIn K (.ref C_Hall) "underway" = some none)
    (no_Hall_5 : PySem.W.findIn K (.ref C_Hall) "begins" = some none)
    (no_Hall_6 : PySem.W.findIn K (.ref C_Hall) "own" = some none)
    (no_Hall_7 : PySem.W.findIn K (.ref C_Hall) "hands" = some none)
    (no_Hall_8 : PySem.W.findIn K (.ref C_Hall) "lent" = some none)
    (no_Hall_9 : PySem.W.findIn K (.ref C_Hall) "ended" = some none)
    (mk_Hall : PySem.W.makesIn K C_Hall = true)
    (if_Hall : PySem.W.isFn K (.ref f_Hall_init) = true)
    (mf_Hall_need_hand : PySem.W.isFn K (.ref f_Hall_need_hand) = true)
    (mf_Hall_step : PySem.W.isFn K (.ref f_Hall_step) = true)
    (mf_Hall_records : PySem.W.isFn K (.ref f_Hall_records) = true)
    (bg_rank : PySem.W.specialIn K (.ref f_Take_rank) "__get__" = some (some (.builtin "function.__get__")))
    (bt_rank : PySem.W.takesIn K (.ref f_Take_rank) = some false)
    (bf_rank : PySem.W.fnIn K f_Take_rank = true)
    (rd_Work : PySem.W.readsIn K C_Work (.type "type") = true)
    (sg_Work : PySem.W.specialIn K (.ref C_Work) "__getattribute__" = some (some (.builtin "type.__getattribute__")))
    (fc_Work_Work_init : PySem.W.findCls K (.ref C_Work) (.type "type") "__init__" = some (.val (.ref f_Work_init)))
    (k_HandsError : PySem.W.keepIn K (.ref e_HandsError) = true)
    (x_HandsError : PySem.W.excIn K e_HandsError [.type "ValueError", .type "Exception", .type "BaseException", .type "object"] "ValueError.__new__" = true)
    (xb_HandsError : PySem.W.subIn K (.ref e_HandsError) (.type "BaseException") = some true)
    (xt_HandsError : PySem.W.typeIn K (.ref e_HandsError) = some (.type "type"))
    (k_NoNumber : PySem.W.keepIn K (.ref e_NoNumber) = true)
    (x_NoNumber : PySem.W.excIn K e_NoNumber [.type "ValueError", .type "Exception", .type "BaseException", .type "object"] "ValueError.__new__" = true)
    (xb_NoNumber : PySem.W.subIn K (.ref e_NoNumber) (.type "BaseException") = some true)
    (xt_NoNumber : PySem.W.typeIn K (.ref e_NoNumber) = some (.type "type"))
    (k_NoBox : PySem.W.keepIn K (.ref e_NoBox) = true)
    (x_NoBox : PySem.W.excIn K e_NoBox [.type "ValueError", .type "Exception", .type "BaseException", .type "object"] "ValueError.__new__" = true)
    (xb_NoBox : PySem.W.subIn K (.ref e_NoBox) (.type "BaseException") = some true)
    (xt_NoBox : PySem.W.typeIn K (.ref e_NoBox) = some (.type "type"))
    (k_NoHand : PySem.W.keepIn K (.ref e_NoHand) = true)
    (x_NoHand : PySem.W.excIn K e_NoHand [.type "ValueError", .type "Exception", .type "BaseException", .type "object"] "ValueError.__new__" = true)
    (xb_NoHand : PySem.W.subIn K (.ref e_NoHand) (.type "BaseException") = some true)
    (xt_NoHand : PySem.W.typeIn K (.ref e_NoHand) = some (.type "type"))
    (k_NoDeed : PySem.W.keepIn K (.ref e_NoDeed) = true)
    (x_NoDeed : PySem.W.excIn K e_NoDeed [.type "ValueError", .type "Exception", .type "BaseException", .type "object"] "ValueError.__new__" = true)
    (xb_NoDeed : PySem.W.subIn K (.ref e_NoDeed) (.type "BaseException") = some true)
    (xt_NoDeed : PySem.W.typeIn K (.ref e_NoDeed) = some (.type "type"))
    (hd_HandsError : PySem.W.hasDictIn K e_HandsError = true)
    (cn_ : PySem.W.specialIn K (.builtin "object.__class__") "__get__" = some (some (.builtin "getset_descriptor.__get__")))
    (ct_ : PySem.W.takesIn K (.builtin "object.__class__") = some true)
    (hg_NoNumber : PySem.W.findIn K (.ref e_NoNumber) "__getattribute__" = some (some (.builtin "BaseException.__getattribute__")))
    (hk_NoNumber : PySem.W.findIn K (.ref e_NoNumber) "__getattr__" = some none)
    (hd_NoNumber : PySem.W.hasDictIn K e_NoNumber = true)
    (ha_NoNumber : PySem.W.findIn K (.ref e_NoNumber) "__class__" = some (some (.builtin "object.__class__")))
    (hm_NoNumber : PySem.W.mroIn K e_NoNumber (.type "object") = some true)
    (xs_NoNumber : PySem.W.subIn K (.ref e_NoNumber) (.ref e_HandsError) = some true)
    (kv_NoNumber : PySem.W.kitOne K (.ref e_NoNumber) (.type "ValueError") = some true)
    (kt_NoNumber_NoNumber : PySem.W.kitOne K (.ref e_NoNumber) (.ref e_NoNumber) = some true)
    (kt_NoNumber_NoBox : PySem.W.kitOne K (.ref e_NoNumber) (.ref e_NoBox) = some false)
    (kt_NoNumber_NoHand : PySem.W.kitOne K (.ref e_NoNumber) (.ref e_NoHand) = some false)
    (kt_NoNumber_NoDeed : PySem.W.kitOne K (.ref e_NoNumber) (.ref e_NoDeed) = some false)
    (hg_NoBox : PySem.W.findIn K (.ref e_NoBox) "__getattribute__" = some (some (.builtin "BaseException.__getattribute__")))
    (hk_NoBox : PySem.W.findIn K (.ref e_NoBox) "__getattr__" = some none)
    (hd_NoBox : PySem.W.hasDictIn K e_NoBox = true)
    (ha_NoBox : PySem.W.findIn K (.ref e_NoBox) "__class__" = some (some (.builtin "object.__class__")))
    (hm_NoBox : PySem.W.mroIn K e_NoBox (.type "object") = some true)
    (xs_NoBox : PySem.W.subIn K (.ref e_NoBox) (.ref e_HandsError) = some true)
    (kv_NoBox : PySem.W.kitOne K (.ref e_NoBox) (.type "ValueError") = some true)
    (kt_NoBox_NoNumber : PySem.W.kitOne K (.ref e_NoBox) (.ref e_NoNumber) = some false)
    (kt_NoBox_NoBox : PySem.W.kitOne K (.ref e_NoBox) (.ref e_NoBox) = some true)
    (kt_NoBox_NoHand : PySem.W.kitOne K (.ref e_NoBox) (.ref e_NoHand) = some false)
    (kt_NoBox_NoDeed : PySem.W.kitOne K (.ref e_NoBox) (.ref e_NoDeed) = some false)
    (hg_NoHand : PySem.W.findIn K (.ref e_NoHand) "__getattribute__" = some (some (.builtin "BaseException.__getattribute__")))
    (hk_NoHand : PySem.W.findIn K (.ref e_NoHand) "__getattr__" = some none)
    (hd_NoHand : PySem.W.hasDictIn K e_NoHand = true)
    (ha_NoHand : PySem.W.findIn K (.ref e_NoHand) "__class__" = some (some (.builtin "object.__class__")))
    (hm_NoHand : PySem.W.mroIn K e_NoHand (.type "object") = some true)
    (xs_NoHand : PySem.W.subIn K (.ref e_NoHand) (.ref e_HandsError) = some true)
    (kv_NoHand : PySem.W.kitOne K (.ref e_NoHand) (.type "ValueError") = some true)
    (kt_NoHand_NoNumber : PySem.W.kitOne K (.ref e_NoHand) (.ref e_NoNumber) = some false)
    (kt_NoHand_NoBox : PySem.W.kitOne K (.ref e_NoHand) (.ref e_NoBox) = some false)
    (kt_NoHand_NoHand : PySem.W.kitOne K (.ref e_NoHand) (.ref e_NoHand) = some true)
    (kt_NoHand_NoDeed : PySem.W.kitOne K (.ref e_NoHand) (.ref e_NoDeed) = some false)
    (hg_NoDeed : PySem.W.findIn K (.ref e_NoDeed) "__getattribute__" = some (some (.builtin "BaseException.__getattribute__")))
    (hk_NoDeed : PySem.W.findIn K (.ref e_NoDeed) "__getattr__" = some none)
    (hd_NoDeed : PySem.W.hasDictIn K e_NoDeed = true)
    (ha_NoDeed : PySem.W.findIn K (.ref e_NoDeed) "__class__" = some (some (.builtin "object.__class__")))
    (hm_NoDeed : PySem.W.mroIn K e_NoDeed (.type "object") = some true)
    (xs_NoDeed : PySem.W.subIn K (.ref e_NoDeed) (.ref e_HandsError) = some true)
    (xss_NoDeed : PySem.W.subIn K (.ref e_NoDeed) (.ref e_NoDeed) = some true)
    (kh_NoDeed : PySem.W.kitOne K (.ref e_NoDeed) (.ref e_HandsError) = some true)
    (kv_NoDeed : PySem.W.kitOne K (.ref e_NoDeed) (.type "ValueError") = some true)
    (kt_NoDeed_NoNumber : PySem.W.kitOne K (.ref e_NoDeed) (.ref e_NoNumber) = some false)
    (kt_NoDeed_NoBox : PySem.W.kitOne K (.ref e_NoDeed) (.ref e_NoBox) = some false)
    (kt_NoDeed_NoHand : PySem.W.kitOne K (.ref e_NoDeed) (.ref e_NoHand) = some false)
    (kt_NoDeed_NoDeed : PySem.W.kitOne K (.ref e_NoDeed) (.ref e_NoDeed) = some true)
    (kl_PLACES : PySem.W.KeysLit w.params es_PLACES.toList)
    (kd_PLACES_one : PySem.W.nsIn K a_PLACES "one" = some (some (.int 0 tk_PLACES_0)))
    (kd_PLACES_count : PySem.W.nsIn K a_PLACES "count" = some (some (.int 0 tk_PLACES_1)))
    (kd_PLACES_set : PySem.W.nsIn K a_PLACES "set" = some (some (.int 1 tk_PLACES_2)))
    (kd_PLACES_look : PySem.W.nsIn K a_PLACES "look" = some (some (.int 1 tk_PLACES_3)))
    (kd_PLACES_add : PySem.W.nsIn K a_PLACES "add" = some (some (.int 2 tk_PLACES_4)))
    (kd_PLACES_sum : PySem.W.nsIn K a_PLACES "sum" = some (some (.int 2 tk_PLACES_5)))
    (kd_PLACES_raise : PySem.W.nsIn K a_PLACES "raise" = some (some (.int 3 tk_PLACES_6)))
    (kd_PLACES_top : PySem.W.nsIn K a_PLACES "top" = some (some (.int 3 tk_PLACES_7)))
    (kd_PLACES_give : PySem.W.nsIn K a_PLACES "give" = some (some (.int 4 tk_PLACES_8)))
    (kd_PLACES_take : PySem.W.nsIn K a_PLACES "take" = some (some (.int 4 tk_PLACES_9)))
    (z_len : PySem.W.nsIn K mainGlobals "len" = some none)
    (z_abs : PySem.W.nsIn K mainGlobals "abs" = some none)
    (z_sum : PySem.W.nsIn K mainGlobals "sum" = some none)
    (z_max : PySem.W.nsIn K mainGlobals "max" = some none)
    (z_min : PySem.W.nsIn K mainGlobals "min" = some none)
    (z_int : PySem.W.nsIn K mainGlobals "int" = some none)
    (z_isinstance : PySem.W.nsIn K mainGlobals "isinstance" = some none)
    (z_list : PySem.W.nsIn K mainGlobals "list" = some none)
    (z_tuple : PySem.W.nsIn K mainGlobals "tuple" = some none)
    (z_range : PySem.W.nsIn K mainGlobals "range" = some none)
    (z_reversed : PySem.W.nsIn K mainGlobals "reversed" = some none)
    (z_enumerate : PySem.W.nsIn K mainGlobals "enumerate" = some none)
    (z_ValueError : PySem.W.nsIn K mainGlobals "ValueError" = some none)
    : ∃ fd : FuncData, (∀ (s : Shared) (v : Value), BindsTo s fd ⟨[v], []⟩ [("_law_script", v)]) ∧ ∀ base : Heap, K.In base → base.Ns mainGlobals mg → FnOk l.prog w K mg base CX0 8 fa fd ["_law_script"] (spS (S_law K)) := by
  have e : f_law = fa := Value.ref.inj (Option.some.inj ((PySem.W.mg_of X G n_f_law).symm.trans hfa))
  subst e
  let E : Env K mg := {
    i_Boxes := ⟨C_Boxes, ⟨pg_Boxes, hd_Boxes, po_Boxes, sa_Boxes⟩, noCons no_Boxes_0 (noCons no_Boxes_1 (noCons no_Boxes_2 (fun _ m => nomatch m))), by decide +kernel, by decide⟩,
    i_Scan := ⟨C_Scan, ⟨pg_Scan, hd_Scan, po_Scan, sa_Scan⟩, noCons no_Scan_0 (noCons no_Scan_1 (noCons no_Scan_2 (noCons no_Scan_3 (noCons no_Scan_4 (noCons no_Scan_5 (noCons no_Scan_6 (noCons no_Scan_7 (fun _ m => nomatch m)))))))), by decide +kernel, by decide⟩,
    i_Memory := ⟨C_Memory, ⟨pg_Memory, hd_Memory, po_Memory, sa_Memory⟩, noCons no_Memory_0 (noCons no_Memory_1 (noCons no_Memory_2 (noCons no_Memory_3 (noCons no_Memory_4 (fun _ m => nomatch m))))), by decide +kernel, by decide⟩,
    i_Work := ⟨C_Work, ⟨pg_Work, hd_Work, po_Work, sa_Work⟩, noCons no_Work_0 (noCons no_Work_1 (noCons no_Work_2 (noCons no_Work_3 (noCons no_Work_4 (noCons no_Work_5 (noCons no_Work_6 (noCons no_Work_7 (noCons no_Work_8 (noCons no_Work_9 (fun _ m => nomatch m)))))))))), by decide +kernel, by decide⟩,
    i_One := ⟨C_One, ⟨pg_One, hd_One, po_One, sa_One⟩, noCons no_One_0 (noCons no_One_1 (noCons no_One_2 (noCons no_One_3 (noCons no_One_4 (noCons no_One_5 (noCons no_One_6 (noCons no_One_7 (noCons no_One_8 (noCons no_One_9 (fun _ m => nomatch m)))))))))), by decide +kernel, by decide⟩,
    i_Count := ⟨C_Count, ⟨pg_Count, hd_Count, po_Count, sa_Count⟩, noCons no_Count_0 (noCons no_Count_1 (noCons no_Count_2 (noCons no_Count_3 (noCons no_Count_4 (noCons no_Count_5 (noCons no_Count_6 (noCons no_Count_7 (noCons no_Count_8 (noCons no_Count_9 (noCons no_Count_10 (fun _ m => nomatch m))))))))))), by decide +kernel, by decide⟩,
    i_Look := ⟨C_Look, ⟨pg_Look, hd_Look, po_Look, sa_Look⟩, noCons no_Look_0 (noCons no_Look_1 (noCons no_Look_2 (noCons no_Look_3 (noCons no_Look_4 (noCons no_Look_5 (noCons no_Look_6 (noCons no_Look_7 (noCons no_Look_8 (noCons no_Look_9 (noCons no_Look_10 (fun _ m => nomatch m))))))))))), by decide +kernel, by decide⟩,
    i_Change := ⟨C_Change, ⟨pg_Change, hd_Change, po_Change, sa_Change⟩, noCons no_Change_0 (noCons no_Change_1 (noCons no_Change_2 (noCons no_Change_3 (noCons no_Change_4 (noCons no_Change_5 (noCons no_Change_6 (noCons no_Change_7 (noCons no_Change_8 (noCons no_Change_9 (noCons no_Change_10 (fun _ m => nomatch m))))))))))), by decide +kernel, by decide⟩,
    i_Give := ⟨C_Give, ⟨pg_Give, hd_Give, po_Give, sa_Give⟩, noCons no_Give_0 (noCons no_Give_1 (noCons no_Give_2 (noCons no_Give_3 (noCons no_Give_4 (noCons no_Give_5 (noCons no_Give_6 (noCons no_Give_7 (noCons no_Give_8 (noCons no_Give_9 (noCons no_Give_10 (fun _ m => nomatch m))))))))))), by decide +kernel, by decide⟩,
    i_Take := ⟨C_Take, ⟨pg_Take, hd_Take, po_Take, sa_Take⟩, noCons no_Take_0 (noCons no_Take_1 (noCons no_Take_2 (noCons no_Take_3 (noCons no_Take_4 (noCons no_Take_5 (noCons no_Take_6 (noCons no_Take_7 (noCons no_Take_8 (noCons no_Take_9 (noCons no_Take_10 (noCons no_Take_11 (fun _ m => nomatch m)))))))))))), by decide +kernel, by decide⟩,
    i_Done := ⟨C_Done, ⟨pg_Done, hd_Done, po_Done, sa_Done⟩, noCons no_Done_0 (noCons no_Done_1 (noCons no_Done_2 (fun _ m => nomatch m))), by decide +kernel, by decide⟩,
    i_Hall := ⟨C_Hall, ⟨pg_Hall, hd_Hall, po_Hall, sa_Hall⟩, noCons no_Hall_0 (noCons no_Hall_1 (noCons no_Hall_2 (noCons no_Hall_3 (noCons no_Hall_4 (noCons no_Hall_5 (noCons no_Hall_6 (noCons no_Hall_7 (noCons no_Hall_8 (noCons no_Hall_9 (fun _ m => nomatch m)))))))))), by decide +kernel, by decide⟩,
    f_need_deed := f_need_deed,
    fd_need_deed := (PySem.W.fnOf "need_deed" "need_deed" (defArgs s_need_deed) (defBody s_need_deed) (defScope s_need_deed) .none kV_need_deed dc_need_deed pm_need_deed an_need_deed cd_need_deed ct_need_deed),
    F_need_deed := (fun_mk (st := s_need_deed) l_need_deed c_need_deed kk_need_deed),
    b_need_deed := ((fun_mk (st := s_need_deed) l_need_deed c_need_deed kk_need_deed).binds (ps := ["deed", "hand"]) fun _ _ _ _ _ _ us hl => match us, hl with | [_, _], _ => rfl),
    g_need_deed := (PySem.W.mg_of X G n_f_need_deed),
    k_need_deed := kk_need_deed,
    f_Boxes_init := f_Boxes_init,
    fd_Boxes_init := (PySem.W.fnOf "__init__" "Boxes.__init__" (defArgs s_Boxes_init) (defBody s_Boxes_init) (defScope s_Boxes_init) .none kV_Boxes_init dc_Boxes_init pm_Boxes_init an_Boxes_init cd_Boxes_init ct_Boxes_init),
    F_Boxes_init := (fun_mk (st := s_Boxes_init) l_Boxes_init c_Boxes_init kk_Boxes_init),
    b_Boxes_init := ((fun_mk (st := s_Boxes_init) l_Boxes_init c_Boxes_init kk_Boxes_init).binds (ps := ["self", "many"]) fun _ _ _ _ _ _ us hl => match us, hl with | [_, _], _ => rfl),
    f_Boxes_need := f_Boxes_need,
    fd_Boxes_need := (PySem.W.fnOf "need" "Boxes.need" (defArgs s_Boxes_need) (defBody s_Boxes_need) (defScope s_Boxes_need) .none kV_Boxes_need dc_Boxes_need pm_Boxes_need an_Boxes_need cd_Boxes_need ct_Boxes_need),
    F_Boxes_need := (fun_mk (st := s_Boxes_need) l_Boxes_need c_Boxes_need kk_Boxes_need),
    b_Boxes_need := ((fun_mk (st := s_Boxes_need) l_Boxes_need c_Boxes_need kk_Boxes_need).binds (ps := ["self", "place"]) fun _ _ _ _ _ _ us hl => match us, hl with | [_, _], _ => rfl),
    f_Boxes_take := f_Boxes_take,
    fd_Boxes_take := (PySem.W.fnOf "take" "Boxes.take" (defArgs s_Boxes_take) (defBody s_Boxes_take) (defScope s_Boxes_take) .none kV_Boxes_take dc_Boxes_take pm_Boxes_take an_Boxes_take cd_Boxes_take ct_Boxes_take),
    F_Boxes_take := (fun_mk (st := s_Boxes_take) l_Boxes_take c_Boxes_take kk_Boxes_take),
    b_Boxes_take := ((fun_mk (st := s_Boxes_take) l_Boxes_take c_Boxes_take kk_Boxes_take).binds (ps := ["self", "place"]) fun _ _ _ _ _ _ us hl => match us, hl with | [_, _], _ => rfl),
    f_Boxes_put := f_Boxes_put,
    fd_Boxes_put := (PySem.W.fnOf "put" "Boxes.put" (defArgs s_Boxes_put) (defBody s_Boxes_put) (defScope s_Boxes_put) .none kV_Boxes_put dc_Boxes_put pm_Boxes_put an_Boxes_put cd_Boxes_put ct_Boxes_put),
    F_Boxes_put := (fun_mk (st := s_Boxes_put) l_Boxes_put c_Boxes_put kk_Boxes_put),
    b_Boxes_put := ((fun_mk (st := s_Boxes_put) l_Boxes_put c_Boxes_put kk_Boxes_put).binds (ps := ["self", "place", "number"]) fun _ _ _ _ _ _ us hl => match us, hl with | [_, _, _], _ => rfl),
    f_packed := f_packed,
    fd_packed := (PySem.W.fnOf "packed" "packed" (defArgs s_packed) (defBody s_packed) (defScope s_packed) .none kV_packed dc_packed pm_packed an_packed cd_packed ct_packed),
    F_packed := (fun_mk (st := s_packed) l_packed c_packed kk_packed),
    b_packed := ((fun_mk (st := s_packed) l_packed c_packed kk_packed).binds (ps := ["row"]) fun _ _ _ _ _ _ us hl => match us, hl with | [_], _ => rfl),
    g_packed := (PySem.W.mg_of X G n_f_packed),
    k_packed := kk_packed,
    f_parted := f_parted,
    fd_parted := (PySem.W.fnOf "parted" "parted" (defArgs s_parted) (defBody s_parted) (defScope s_parted) .none kV_parted dc_parted pm_parted an_parted cd_parted ct_parted),
    F_parted := (fun_mk (st := s_parted) l_parted c_parted kk_parted),
    b_parted := ((fun_mk (st := s_parted) l_parted c_parted kk_parted).binds (ps := ["number"]) fun _ _ _ _ _ _ us hl => match us, hl with | [_], _ => rfl),
    g_parted := (PySem.W.mg_of X G n_f_parted),
    k_parted := kk_parted,
    f_cell_of := f_cell_of,
    fd_cell_of := (PySem.W.fnOf "cell_of" "cell_of" (defArgs s_cell_of) (defBody s_cell_of) (defScope s_cell_of) .none kV_cell_of dc_cell_of pm_cell_of an_cell_of cd_cell_of ct_cell_of),
    F_cell_of := (fun_mk (st := s_cell_of) l_cell_of c_cell_of kk_cell_of),
    b_cell_of := ((fun_mk (st := s_cell_of) l_cell_of c_cell_of kk_cell_of).binds (ps := ["number"]) fun _ _ _ _ _ _ us hl => match us, hl with | [_], _ => rfl),
    g_cell_of := (PySem.W.mg_of X G n_f_cell_of),
    k_cell_of := kk_cell_of,
    f_Scan_init := f_Scan_init,
    fd_Scan_init := (PySem.W.fnOf "__init__" "Scan.__init__" (defArgs s_Scan_init) (defBody s_Scan_init) (defScope s_Scan_init) .none kV_Scan_init dc_Scan_init pm_Scan_init an_Scan_init cd_Scan_init ct_Scan_init),
    F_Scan_init := (fun_mk (st := s_Scan_init) l_Scan_init c_Scan_init kk_Scan_init),
    b_Scan_init := ((fun_mk (st := s_Scan_init) l_Scan_init c_Scan_init kk_Scan_init).binds (ps := ["self", "first", "many"]) fun _ _ _ _ _ _ us hl => match us, hl with | [_, _, _], _ => rfl),
    f_Scan_step := f_Scan_step,
    fd_Scan_step := (PySem.W.fnOf "step" "Scan.step" (defArgs s_Scan_step) (defBody s_Scan_step) (defScope s_Scan_step) .none kV_Scan_step dc_Scan_step pm_Scan_step an_Scan_step cd_Scan_step ct_Scan_step),
    F_Scan_step := (fun_mk (st := s_Scan_step) l_Scan_step c_Scan_step kk_Scan_step),
    b_Scan_step := ((fun_mk (st := s_Scan_step) l_Scan_step c_Scan_step kk_Scan_step).binds (ps := ["self", "boxes", "clock", "lent"]) fun _ _ _ _ _ _ us hl => match us, hl with | [_, _, _, _], _ => rfl),
    f_Scan_looked := f_Scan_looked,
    fd_Scan_looked := (PySem.W.fnOf "looked" "Scan.looked" (defArgs s_Scan_looked) (defBody s_Scan_looked) (defScope s_Scan_looked) .none kV_Scan_looked dc_Scan_looked pm_Scan_looked an_Scan_looked cd_Scan_looked ct_Scan_looked),
    F_Scan_looked := (fun_mk (st := s_Scan_looked) l_Scan_looked c_Scan_looked kk_Scan_looked),
    b_Scan_looked := ((fun_mk (st := s_Scan_looked) l_Scan_looked c_Scan_looked kk_Scan_looked).binds (ps := ["self", "lent"]) fun _ _ _ _ _ _ us hl => match us, hl with | [_, _], _ => rfl),
    f_Memory_init := f_Memory_init,
    fd_Memory_init := (PySem.W.fnOf "__init__" "Memory.__init__" (defArgs s_Memory_init) (defBody s_Memory_init) (defScope s_Memory_init) .none kV_Memory_init dc_Memory_init pm_Memory_init an_Memory_init cd_Memory_init ct_Memory_init),
    F_Memory_init := (fun_mk (st := s_Memory_init) l_Memory_init c_Memory_init kk_Memory_init),
    b_Memory_init := ((fun_mk (st := s_Memory_init) l_Memory_init c_Memory_init kk_Memory_init).binds (ps := ["self", "many"]) fun _ _ _ _ _ _ us hl => match us, hl with | [_, _], _ => rfl),
    f_Work_init := f_Work_init,
    fd_Work_init := (PySem.W.fnOf "__init__" "Work.__init__" (defArgs s_Work_init) (defBody s_Work_init) (defScope s_Work_init) .none kV_Work_init dc_Work_init pm_Work_init an_Work_init cd_Work_init ct_Work_init),
    F_Work_init := (fun_mk (st := s_Work_init) l_Work_init c_Work_init kk_Work_init),
    b_Work_init := ((fun_mk (st := s_Work_init) l_Work_init c_Work_init kk_Work_init).binds (ps := ["self", "deed", "hand", "memory", "first", "many"]) fun _ _ _ _ _ _ us hl => match us, hl with | [_, _, _, _, _, _], _ => rfl),
    f_Work_step := f_Work_step,
    fd_Work_step := (PySem.W.fnOf "step" "Work.step" (defArgs s_Work_step) (defBody s_Work_step) (defScope s_Work_step) .none kV_Work_step dc_Work_step pm_Work_step an_Work_step cd_Work_step ct_Work_step),
    F_Work_step := (fun_mk (st := s_Work_step) l_Work_step c_Work_step kk_Work_step),
    b_Work_step := ((fun_mk (st := s_Work_step) l_Work_step c_Work_step kk_Work_step).binds (ps := ["self", "boxes", "clock", "lent"]) fun _ _ _ _ _ _ us hl => match us, hl with | [_, _, _, _], _ => rfl),
    f_One_step := f_One_step,
    fd_One_step := (PySem.W.fnOf "step" "One.step" (defArgs s_One_step) (defBody s_One_step) (defScope s_One_step) .none kV_One_step dc_One_step pm_One_step an_One_step cd_One_step ct_One_step),
    F_One_step := (fun_mk (st := s_One_step) l_One_step c_One_step kk_One_step),
    b_One_step := ((fun_mk (st := s_One_step) l_One_step c_One_step kk_One_step).binds (ps := ["self", "boxes", "clock", "lent"]) fun _ _ _ _ _ _ us hl => match us, hl with | [_, _, _, _], _ => rfl),
    f_Count_init := f_Count_init,
    fd_Count_init := (PySem.W.fnOf "__init__" "Count.__init__" (defArgs s_Count_init) (defBody s_Count_init) (defScope s_Count_init) .none kV_Count_init dc_Count_init pm_Count_init an_Count_init cd_Count_init ct_Count_init),
    F_Count_init := (fun_mk (st := s_Count_init) l_Count_init c_Count_init kk_Count_init),
    b_Count_init := ((fun_mk (st := s_Count_init) l_Count_init c_Count_init kk_Count_init).binds (ps := ["self", "deed", "hand", "memory", "first", "many"]) fun _ _ _ _ _ _ us hl => match us, hl with | [_, _, _, _, _, _], _ => rfl),
    f_Count_step := f_Count_step,
    fd_Count_step := (PySem.W.fnOf "step" "Count.step" (defArgs s_Count_step) (defBody s_Count_step) (defScope s_Count_step) .none kV_Count_step dc_Count_step pm_Count_step an_Count_step cd_Count_step ct_Count_step),
    F_Count_step := (fun_mk (st := s_Count_step) l_Count_step c_Count_step kk_Count_step),
    b_Count_step := ((fun_mk (st := s_Count_step) l_Count_step c_Count_step kk_Count_step).binds (ps := ["self", "boxes", "clock", "lent"]) fun _ _ _ _ _ _ us hl => match us, hl with | [_, _, _, _], _ => rfl),
    f_Look_init := f_Look_init,
    fd_Look_init := (PySem.W.fnOf "__init__" "Look.__init__" (defArgs s_Look_init) (defBody s_Look_init) (defScope s_Look_init) .none kV_Look_init dc_Look_init pm_Look_init an_Look_init cd_Look_init ct_Look_init),
    F_Look_init := (fun_mk (st := s_Look_init) l_Look_init c_Look_init kk_Look_init),
    b_Look_init := ((fun_mk (st := s_Look_init) l_Look_init c_Look_init kk_Look_init).binds (ps := ["self", "deed", "hand", "memory", "first", "many"]) fun _ _ _ _ _ _ us hl => match us, hl with | [_, _, _, _, _, _], _ => rfl),
    f_Look_step := f_Look_step,
    fd_Look_step := (PySem.W.fnOf "step" "Look.step" (defArgs s_Look_step) (defBody s_Look_step) (defScope s_Look_step) .none kV_Look_step dc_Look_step pm_Look_step an_Look_step cd_Look_step ct_Look_step),
    F_Look_step := (fun_mk (st := s_Look_step) l_Look_step c_Look_step kk_Look_step),
    b_Look_step := ((fun_mk (st := s_Look_step) l_Look_step c_Look_step kk_Look_step).binds (ps := ["self", "boxes", "clock", "lent"]) fun _ _ _ _ _ _ us hl => match us, hl with | [_, _, _, _], _ => rfl),
    f_Change_init := f_Change_init,
    fd_Change_init := (PySem.W.fnOf "__init__" "Change.__init__" (defArgs s_Change_init) (defBody s_Change_init) (defScope s_Change_init) .none kV_Change_init dc_Change_init pm_Change_init an_Change_init cd_Change_init ct_Change_init),
    F_Change_init := (fun_mk (st := s_Change_init) l_Change_init c_Change_init kk_Change_init),
    b_Change_init := ((fun_mk (st := s_Change_init) l_Change_init c_Change_init kk_Change_init).binds (ps := ["self", "deed", "hand", "memory", "first", "many"]) fun _ _ _ _ _ _ us hl => match us, hl with | [_, _, _, _, _, _], _ => rfl),
    f_Change_step := f_Change_step,
    fd_Change_step := (PySem.W.fnOf "step" "Change.step" (defArgs s_Change_step) (defBody s_Change_step) (defScope s_Change_step) .none kV_Change_step dc_Change_step pm_Change_step an_Change_step cd_Change_step ct_Change_step),
    F_Change_step := (fun_mk (st := s_Change_step) l_Change_step c_Change_step kk_Change_step),
    b_Change_step := ((fun_mk (st := s_Change_step) l_Change_step c_Change_step kk_Change_step).binds (ps := ["self", "boxes", "clock", "lent"]) fun _ _ _ _ _ _ us hl => match us, hl with | [_, _, _, _], _ => rfl),
    f_Give_init := f_Give_init,
    fd_Give_init := (PySem.W.fnOf "__init__" "Give.__init__" (defArgs s_Give_init) (defBody s_Give_init) (defScope s_Give_init) .none kV_Give_init dc_Give_init pm_Give_init an_Give_init cd_Give_init ct_Give_init),
    F_Give_init := (fun_mk (st := s_Give_init) l_Give_init c_Give_init kk_Give_init),
    b_Give_init := ((fun_mk (st := s_Give_init) l_Give_init c_Give_init kk_Give_init).binds (ps := ["self", "deed", "hand", "memory", "first", "many"]) fun _ _ _ _ _ _ us hl => match us, hl with | [_, _, _, _, _, _], _ => rfl),
    f_Give_step := f_Give_step,
    fd_Give_step := (PySem.W.fnOf "step" "Give.step" (defArgs s_Give_step) (defBody s_Give_step) (defScope s_Give_step) .none kV_Give_step dc_Give_step pm_Give_step an_Give_step cd_Give_step ct_Give_step),
    F_Give_step := (fun_mk (st := s_Give_step) l_Give_step c_Give_step kk_Give_step),
    b_Give_step := ((fun_mk (st := s_Give_step) l_Give_step c_Give_step kk_Give_step).binds (ps := ["self", "boxes", "clock", "lent"]) fun _ _ _ _ _ _ us hl => match us, hl with | [_, _, _, _], _ => rfl),
    f_Take_init := f_Take_init,
    fd_Take_init := (PySem.W.fnOf "__init__" "Take.__init__" (defArgs s_Take_init) (defBody s_Take_init) (defScope s_Take_init) .none kV_Take_init dc_Take_init pm_Take_init an_Take_init cd_Take_init ct_Take_init),
    F_Take_init := (fun_mk (st := s_Take_init) l_Take_init c_Take_init kk_Take_init),
    b_Take_init := ((fun_mk (st := s_Take_init) l_Take_init c_Take_init kk_Take_init).binds (ps := ["self", "deed", "hand", "memory", "first", "many"]) fun _ _ _ _ _ _ us hl => match us, hl with | [_, _, _, _, _, _], _ => rfl),
    f_Take_step := f_Take_step,
    fd_Take_step := (PySem.W.fnOf "step" "Take.step" (defArgs s_Take_step) (defBody s_Take_step) (defScope s_Take_step) .none kV_Take_step dc_Take_step pm_Take_step an_Take_step cd_Take_step ct_Take_step),
    F_Take_step := (fun_mk (st := s_Take_step) l_Take_step c_Take_step kk_Take_step),
    b_Take_step := ((fun_mk (st := s_Take_step) l_Take_step c_Take_step kk_Take_step).binds (ps := ["self", "boxes", "clock", "lent"]) fun _ _ _ _ _ _ us hl => match us, hl with | [_, _, _, _], _ => rfl),
    f_Take_rank := f_Take_rank,
    fd_Take_rank := (PySem.W.fnOf "rank" "Take.rank" (defArgs s_Take_rank) (defBody s_Take_rank) (defScope s_Take_rank) .none kV_Take_rank dc_Take_rank pm_Take_rank an_Take_rank cd_Take_rank ct_Take_rank),
    F_Take_rank := (fun_mk (st := s_Take_rank) l_Take_rank c_Take_rank kk_Take_rank),
    b_Take_rank := ((fun_mk (st := s_Take_rank) l_Take_rank c_Take_rank kk_Take_rank).binds (ps := ["self", "k"]) fun _ _ _ _ _ _ us hl => match us, hl with | [_, _], _ => rfl),
    f_work_of := f_work_of,
    fd_work_of := (PySem.W.fnOf "work_of" "work_of" (defArgs s_work_of) (defBody s_work_of) (defScope s_work_of) .none kV_work_of dc_work_of pm_work_of an_work_of cd_work_of ct_work_of),
    F_work_of := (fun_mk (st := s_work_of) l_work_of c_work_of kk_work_of),
    b_work_of := ((fun_mk (st := s_work_of) l_work_of c_work_of kk_work_of).binds (ps := ["deed", "hand", "memory", "many"]) fun _ _ _ _ _ _ us hl => match us, hl with | [_, _, _, _], _ => rfl),
    g_work_of := (PySem.W.mg_of X G n_f_work_of),
    k_work_of := kk_work_of,
    f_Done_init := f_Done_init,
    fd_Done_init := (PySem.W.fnOf "__init__" "Done.__init__" (defArgs s_Done_init) (defBody s_Done_init) (defScope s_Done_init) .none kV_Done_init dc_Done_init pm_Done_init an_Done_init cd_Done_init ct_Done_init),
    F_Done_init := (fun_mk (st := s_Done_init) l_Done_init c_Done_init kk_Done_init),
    b_Done_init := ((fun_mk (st := s_Done_init) l_Done_init c_Done_init kk_Done_init).binds (ps := ["self", "work", "begin", "end"]) fun _ _ _ _ _ _ us hl => match us, hl with | [_, _, _, _], _ => rfl),
    f_Hall_init := f_Hall_init,
    fd_Hall_init := (PySem.W.fnOf "__init__" "Hall.__init__" (defArgs s_Hall_init) (defBody s_Hall_init) (defScope s_Hall_init) .none kV_Hall_init dc_Hall_init pm_Hall_init an_Hall_init cd_Hall_init ct_Hall_init),
    F_Hall_init := (fun_mk (st := s_Hall_init) l_Hall_init c_Hall_init kk_Hall_init),
    b_Hall_init := ((fun_mk (st := s_Hall_init) l_Hall_init c_Hall_init kk_Hall_init).binds (ps := ["self", "plans"]) fun _ _ _ _ _ _ us hl => match us, hl with | [_, _], _ => rfl),
    f_Hall_need_hand := f_Hall_need_hand,
    fd_Hall_need_hand := (PySem.W.fnOf "need_hand" "Hall.need_hand" (defArgs s_Hall_need_hand) (defBody s_Hall_need_hand) (defScope s_Hall_need_hand) .none kV_Hall_need_hand dc_Hall_need_hand pm_Hall_need_hand an_Hall_need_hand cd_Hall_need_hand ct_Hall_need_hand),
    F_Hall_need_hand := (fun_mk (st := s_Hall_need_hand) l_Hall_need_hand c_Hall_need_hand kk_Hall_need_hand),
    b_Hall_need_hand := ((fun_mk (st := s_Hall_need_hand) l_Hall_need_hand c_Hall_need_hand kk_Hall_need_hand).binds (ps := ["self", "hand"]) fun _ _ _ _ _ _ us hl => match us, hl with | [_, _], _ => rfl),
    f_Hall_step := f_Hall_step,
    fd_Hall_step := (PySem.W.fnOf "step" "Hall.step" (defArgs s_Hall_step) (defBody s_Hall_step) (defScope s_Hall_step) .none kV_Hall_step dc_Hall_step pm_Hall_step an_Hall_step cd_Hall_step ct_Hall_step),
    F_Hall_step := (fun_mk (st := s_Hall_step) l_Hall_step c_Hall_step kk_Hall_step),
    b_Hall_step := ((fun_mk (st := s_Hall_step) l_Hall_step c_Hall_step kk_Hall_step).binds (ps := ["self", "hand"]) fun _ _ _ _ _ _ us hl => match us, hl with | [_, _], _ => rfl),
    f_Hall_records := f_Hall_records,
    fd_Hall_records := (PySem.W.fnOf "records" "Hall.records" (defArgs s_Hall_records) (defBody s_Hall_records) (defScope s_Hall_records) .none kV_Hall_records dc_Hall_records pm_Hall_records an_Hall_records cd_Hall_records ct_Hall_records),
    F_Hall_records := (fun_mk (st := s_Hall_records) l_Hall_records c_Hall_records kk_Hall_records),
    b_Hall_records := ((fun_mk (st := s_Hall_records) l_Hall_records c_Hall_records kk_Hall_records).binds (ps := ["self"]) fun _ _ _ _ _ _ us hl => match us, hl with | [_], _ => rfl),
    f__law_cell := f__law_cell,
    fd__law_cell := (PySem.W.fnOf "_law_cell" "_law_cell" (defArgs s__law_cell) (defBody s__law_cell) (defScope s__law_cell) .none kV__law_cell dc__law_cell pm__law_cell an__law_cell cd__law_cell ct__law_cell),
    F__law_cell := (fun_mk (st := s__law_cell) l__law_cell c__law_cell kk__law_cell),
    b__law_cell := ((fun_mk (st := s__law_cell) l__law_cell c__law_cell kk__law_cell).binds (ps := ["_law_script", "_law_k"]) fun _ _ _ _ _ _ us hl => match us, hl with | [_, _], _ => rfl),
    g__law_cell := (PySem.W.mg_of X G n_f__law_cell),
    k__law_cell := kk__law_cell,
    f__law_dice := f__law_dice,
    fd__law_dice := (PySem.W.fnOf "_law_dice" "_law_dice" (defArgs s__law_dice) (defBody s__law_dice) (defScope s__law_dice) .none kV__law_dice dc__law_dice pm__law_dice an__law_dice cd__law_dice ct__law_dice),
    F__law_dice := (fun_mk (st := s__law_dice) l__law_dice c__law_dice kk__law_dice),
    b__law_dice := ((fun_mk (st := s__law_dice) l__law_dice c__law_dice kk__law_dice).binds (ps := ["_law_script", "_law_k"]) fun _ _ _ _ _ _ us hl => match us, hl with | [_, _], _ => rfl),
    g__law_dice := (PySem.W.mg_of X G n_f__law_dice),
    k__law_dice := kk__law_dice,
    f__law_off := f__law_off,
    fd__law_off := (PySem.W.fnOf "_law_off" "_law_off" (defArgs s__law_off) (defBody s__law_off) (defScope s__law_off) .none kV__law_off dc__law_off pm__law_off an__law_off cd__law_off ct__law_off),
    F__law_off := (fun_mk (st := s__law_off) l__law_off c__law_off kk__law_off),
    b__law_off := ((fun_mk (st := s__law_off) l__law_off c__law_off kk__law_off).binds (ps := ["_law_d", "_law_most"]) fun _ _ _ _ _ _ us hl => match us, hl with | [_, _], _ => rfl),
    g__law_off := (PySem.W.mg_of X G n_f__law_off),
    k__law_off := kk__law_off,
    f__law_deed := f__law_deed,
    fd__law_deed := (PySem.W.fnOf "_law_deed" "_law_deed" (defArgs s__law_deed) (defBody s__law_deed) (defScope s__law_deed) .none kV__law_deed dc__law_deed pm__law_deed an__law_deed cd__law_deed ct__law_deed),
    F__law_deed := (fun_mk (st := s__law_deed) l__law_deed c__law_deed kk__law_deed),
    b__law_deed := ((fun_mk (st := s__law_deed) l__law_deed c__law_deed kk__law_deed).binds (ps := ["_law_d", "_law_word"]) fun _ _ _ _ _ _ us hl => match us, hl with | [_, _], _ => rfl),
    g__law_deed := (PySem.W.mg_of X G n_f__law_deed),
    k__law_deed := kk__law_deed,
    f__law_plans := f__law_plans,
    fd__law_plans := (PySem.W.fnOf "_law_plans" "_law_plans" (defArgs s__law_plans) (defBody s__law_plans) (defScope s__law_plans) .none kV__law_plans dc__law_plans pm__law_plans an__law_plans cd__law_plans ct__law_plans),
    F__law_plans := (fun_mk (st := s__law_plans) l__law_plans c__law_plans kk__law_plans),
    b__law_plans := ((fun_mk (st := s__law_plans) l__law_plans c__law_plans kk__law_plans).binds (ps := ["_law_d", "_law_many", "_law_words", "_law_most"]) fun _ _ _ _ _ _ us hl => match us, hl with | [_, _, _, _], _ => rfl),
    g__law_plans := (PySem.W.mg_of X G n_f__law_plans),
    k__law_plans := kk__law_plans,
    f__law_refused := f__law_refused,
    fd__law_refused := (PySem.W.fnOf "_law_refused" "_law_refused" (defArgs s__law_refused) (defBody s__law_refused) (defScope s__law_refused) .none kV__law_refused dc__law_refused pm__law_refused an__law_refused cd__law_refused ct__law_refused),
    F__law_refused := (fun_mk (st := s__law_refused) l__law_refused c__law_refused kk__law_refused),
    b__law_refused := ((fun_mk (st := s__law_refused) l__law_refused c__law_refused kk__law_refused).binds (ps := ["_law_deed_here", "_law_hand"]) fun _ _ _ _ _ _ us hl => match us, hl with | [_, _], _ => rfl),
    g__law_refused := (PySem.W.mg_of X G n_f__law_refused),
    k__law_refused := kk__law_refused,
    f__law_no_hall := f__law_no_hall,
    fd__law_no_hall := (PySem.W.fnOf "_law_no_hall" "_law_no_hall" (defArgs s__law_no_hall) (defBody s__law_no_hall) (defScope s__law_no_hall) .none kV__law_no_hall dc__law_no_hall pm__law_no_hall an__law_no_hall cd__law_no_hall ct__law_no_hall),
    F__law_no_hall := (fun_mk (st := s__law_no_hall) l__law_no_hall c__law_no_hall kk__law_no_hall),
    b__law_no_hall := ((fun_mk (st := s__law_no_hall) l__law_no_hall c__law_no_hall kk__law_no_hall).binds (ps := ["_law_plans_here"]) fun _ _ _ _ _ _ us hl => match us, hl with | [_], _ => rfl),
    g__law_no_hall := (PySem.W.mg_of X G n_f__law_no_hall),
    k__law_no_hall := kk__law_no_hall,
    f__law_odd := f__law_odd,
    fd__law_odd := (PySem.W.fnOf "_law_odd" "_law_odd" (defArgs s__law_odd) (defBody s__law_odd) (defScope s__law_odd) .none kV__law_odd dc__law_odd pm__law_odd an__law_odd cd__law_odd ct__law_odd),
    F__law_odd := (fun_mk (st := s__law_odd) l__law_odd c__law_odd kk__law_odd),
    b__law_odd := ((fun_mk (st := s__law_odd) l__law_odd c__law_odd kk__law_odd).binds (ps := ["_law_d"]) fun _ _ _ _ _ _ us hl => match us, hl with | [_], _ => rfl),
    g__law_odd := (PySem.W.mg_of X G n_f__law_odd),
    k__law_odd := kk__law_odd,
    f_law := f_law,
    fd_law := (PySem.W.fnOf "law" "law" (defArgs s_law) (defBody s_law) (defScope s_law) .none kV_law dc_law pm_law an_law cd_law ct_law),
    F_law := (fun_mk (st := s_law) l_law c_law kk_law),
    b_law := ((fun_mk (st := s_law) l_law c_law kk_law).binds (ps := ["_law_script"]) fun _ _ _ _ _ _ us hl => match us, hl with | [_], _ => rfl),
    g_law := (PySem.W.mg_of X G n_f_law),
    k_law := kk_law,
    g_Boxes := (PySem.W.mg_of X G n_c_Boxes),
    mk_Boxes := ⟨mk_Boxes, mi_Boxes, if_Boxes, kc_Boxes⟩,
    m_Boxes_need := ⟨ma_Boxes_need, mf_Boxes_need, kk_Boxes_need⟩,
    m_Boxes_take := ⟨ma_Boxes_take, mf_Boxes_take, kk_Boxes_take⟩,
    m_Boxes_put := ⟨ma_Boxes_put, mf_Boxes_put, kk_Boxes_put⟩,
    g_Scan := (PySem.W.mg_of X G n_c_Scan),
    mk_Scan := ⟨mk_Scan, mi_Scan, if_Scan, kc_Scan⟩,
    m_Scan_step := ⟨ma_Scan_step, mf_Scan_step, kk_Scan_step⟩,
    m_Scan_looked := ⟨ma_Scan_looked, mf_Scan_looked, kk_Scan_looked⟩,
    g_Memory := (PySem.W.mg_of X G n_c_Memory),
    mk_Memory := ⟨mk_Memory, mi_Memory, if_Memory, kc_Memory⟩,
    g_Work := (PySem.W.mg_of X G n_c_Work),
    mk_Work := ⟨mk_Work, mi_Work, if_Work, kc_Work⟩,
    m_Work_step := ⟨ma_Work_step, mf_Work_step, kk_Work_step⟩,
    g_One := (PySem.W.mg_of X G n_c_One),
    mk_One := ⟨mk_One, mi_One, if_One, kc_One⟩,
    m_One_step := ⟨ma_One_step, mf_One_step, kk_One_step⟩,
    g_Count := (PySem.W.mg_of X G n_c_Count),
    mk_Count := ⟨mk_Count, mi_Count, if_Count, kc_Count⟩,
    m_Count_step := ⟨ma_Count_step, mf_Count_step, kk_Count_step⟩,
    g_Look := (PySem.W.mg_of X G n_c_Look),
    mk_Look := ⟨mk_Look, mi_Look, if_Look, kc_Look⟩,
    m_Look_step := ⟨ma_Look_step, mf_Look_step, kk_Look_step⟩,
    g_Change := (PySem.W.mg_of X G n_c_Change),
    mk_Change := ⟨mk_Change, mi_Change, if_Change, kc_Change⟩,
    m_Change_step := ⟨ma_Change_step, mf_Change_step, kk_Change_step⟩,
    g_Give := (PySem.W.mg_of X G n_c_Give),
    mk_Give := ⟨mk_Give, mi_Give, if_Give, kc_Give⟩,
    m_Give_step := ⟨ma_Give_step, mf_Give_step, kk_Give_step⟩,
    g_Take := (PySem.W.mg_of X G n_c_Take),
    mk_Take := ⟨mk_Take, mi_Take, if_Take, kc_Take⟩,
    m_Take_step := ⟨ma_Take_step, mf_Take_step, kk_Take_step⟩,
    m_Take_rank := ⟨ma_Take_rank, mf_Take_rank, kk_Take_rank⟩,
    g_Done := (PySem.W.mg_of X G n_c_Done),
    mk_Done := ⟨mk_Done, mi_Done, if_Done, kc_Done⟩,
    g_Hall := (PySem.W.mg_of X G n_c_Hall),
    mk_Hall := ⟨mk_Hall, mi_Hall, if_Hall, kc_Hall⟩,
    m_Hall_need_hand := ⟨ma_Hall_need_hand, mf_Hall_need_hand, kk_Hall_need_hand⟩,
    m_Hall_step := ⟨ma_Hall_step, mf_Hall_step, kk_Hall_step⟩,
    m_Hall_records := ⟨ma_Hall_records, mf_Hall_records, kk_Hall_records⟩,
    bm_Take_rank := ⟨⟨ma_Take_rank, mf_Take_rank, kk_Take_rank⟩, bg_rank, bt_rank, by decide +kernel, bf_rank⟩,
    cr_Work := ⟨rd_Work, sg_Work⟩,
    cf_Work_init := fc_Work_Work_init,
    kk_Work_init := kk_Work_init,
    e_HandsError := e_HandsError,
    g_HandsError := (PySem.W.mg_of X G n_e_HandsError),
    k_HandsError := k_HandsError,
    x_HandsError := x_HandsError,
    xb_HandsError := xb_HandsError,
    xt_HandsError := xt_HandsError,
    e_NoNumber := e_NoNumber,
    g_NoNumber := (PySem.W.mg_of X G n_e_NoNumber),
    k_NoNumber := k_NoNumber,
    x_NoNumber := x_NoNumber,
    xb_NoNumber := xb_NoNumber,
    xt_NoNumber := xt_NoNumber,
    e_NoBox := e_NoBox,
    g_NoBox := (PySem.W.mg_of X G n_e_NoBox),
    k_NoBox := k_NoBox,
    x_NoBox := x_NoBox,
    xb_NoBox := xb_NoBox,
    xt_NoBox := xt_NoBox,
    e_NoHand := e_NoHand,
    g_NoHand := (PySem.W.mg_of X G n_e_NoHand),
    k_NoHand := k_NoHand,
    x_NoHand := x_NoHand,
    xb_NoHand := xb_NoHand,
    xt_NoHand := xt_NoHand,
    e_NoDeed := e_NoDeed,
    g_NoDeed := (PySem.W.mg_of X G n_e_NoDeed),
    k_NoDeed := k_NoDeed,
    x_NoDeed := x_NoDeed,
    xb_NoDeed := xb_NoDeed,
    xt_NoDeed := xt_NoDeed,
    ec_NoNumber := ⟨hg_NoNumber, hk_NoNumber, xb_NoNumber, hd_NoNumber, ha_NoNumber, cn_, ct_, hm_NoNumber⟩,
    ex_NoNumber := PySem.W.exm_ref xb_HandsError hd_HandsError xt_HandsError xs_NoNumber,
    kv_NoNumber := kv_NoNumber,
    kt_NoNumber_NoNumber := kt_NoNumber_NoNumber,
    kt_NoNumber_NoBox := kt_NoNumber_NoBox,
    kt_NoNumber_NoHand := kt_NoNumber_NoHand,
    kt_NoNumber_NoDeed := kt_NoNumber_NoDeed,
    ec_NoBox := ⟨hg_NoBox, hk_NoBox, xb_NoBox, hd_NoBox, ha_NoBox, cn_, ct_, hm_NoBox⟩,
    ex_NoBox := PySem.W.exm_ref xb_HandsError hd_HandsError xt_HandsError xs_NoBox,
    kv_NoBox := kv_NoBox,
    kt_NoBox_NoNumber := kt_NoBox_NoNumber,
    kt_NoBox_NoBox := kt_NoBox_NoBox,
    kt_NoBox_NoHand := kt_NoBox_NoHand,
    kt_NoBox_NoDeed := kt_NoBox_NoDeed,
    ec_NoHand := ⟨hg_NoHand, hk_NoHand, xb_NoHand, hd_NoHand, ha_NoHand, cn_, ct_, hm_NoHand⟩,
    ex_NoHand := PySem.W.exm_ref xb_HandsError hd_HandsError xt_HandsError xs_NoHand,
    kv_NoHand := kv_NoHand,
    kt_NoHand_NoNumber := kt_NoHand_NoNumber,
    kt_NoHand_NoBox := kt_NoHand_NoBox,
    kt_NoHand_NoHand := kt_NoHand_NoHand,
    kt_NoHand_NoDeed := kt_NoHand_NoDeed,
    exs_NoDeed := PySem.W.exm_ref xb_NoDeed hd_NoDeed xt_NoDeed xss_NoDeed,
    kh_NoDeed := kh_NoDeed,
    ec_NoDeed := ⟨hg_NoDeed, hk_NoDeed, xb_NoDeed, hd_NoDeed, ha_NoDeed, cn_, ct_, hm_NoDeed⟩,
    ex_NoDeed := PySem.W.exm_ref xb_HandsError hd_HandsError xt_HandsError xs_NoDeed,
    kv_NoDeed := kv_NoDeed,
    kt_NoDeed_NoNumber := kt_NoDeed_NoNumber,
    kt_NoDeed_NoBox := kt_NoDeed_NoBox,
    kt_NoDeed_NoHand := kt_NoDeed_NoHand,
    kt_NoDeed_NoDeed := kt_NoDeed_NoDeed,
    gt_MOST_NUMBER := gt_MOST_NUMBER,
    g_MOST_NUMBER := (PySem.W.mg_of X G n_k_MOST_NUMBER),
    a_WITH_NUMBER := a_WITH_NUMBER,
    g_WITH_NUMBER := (PySem.W.mg_of X G n_k_WITH_NUMBER),
    t_WITH_NUMBER := (fun _ => .inr ⟨_, _, _, l_k_WITH_NUMBER, rfl, rfl, by show 4 ≤ sizeLine; decide, (.cons ⟨_, rfl⟩ (.cons ⟨_, rfl⟩ (.cons ⟨_, rfl⟩ (.cons ⟨_, rfl⟩ .nil))))⟩),
    a_ALONE := a_ALONE,
    g_ALONE := (PySem.W.mg_of X G n_k_ALONE),
    t_ALONE := (fun _ => .inr ⟨_, _, _, l_k_ALONE, rfl, rfl, by show 6 ≤ sizeLine; decide, (.cons ⟨_, rfl⟩ (.cons ⟨_, rfl⟩ (.cons ⟨_, rfl⟩ (.cons ⟨_, rfl⟩ (.cons ⟨_, rfl⟩ (.cons ⟨_, rfl⟩ .nil))))))⟩),
    gt_BASE := gt_BASE,
    g_BASE := (PySem.W.mg_of X G n_k_BASE),
    ww := w,
    a_PLACES := a_PLACES,
    g_PLACES := (PySem.W.mg_of X G n_k_PLACES),
    d_PLACES_one := ⟨_, _, _, l_k_PLACES, kl_PLACES, kd_PLACES_one, ⟨_, rfl⟩⟩,
    d_PLACES_count := ⟨_, _, _, l_k_PLACES, kl_PLACES, kd_PLACES_count, ⟨_, rfl⟩⟩,
    d_PLACES_set := ⟨_, _, _, l_k_PLACES, kl_PLACES, kd_PLACES_set, ⟨_, rfl⟩⟩,
    d_PLACES_look := ⟨_, _, _, l_k_PLACES, kl_PLACES, kd_PLACES_look, ⟨_, rfl⟩⟩,
    d_PLACES_add := ⟨_, _, _, l_k_PLACES, kl_PLACES, kd_PLACES_add, ⟨_, rfl⟩⟩,
    d_PLACES_sum := ⟨_, _, _, l_k_PLACES, kl_PLACES, kd_PLACES_sum, ⟨_, rfl⟩⟩,
    d_PLACES_raise := ⟨_, _, _, l_k_PLACES, kl_PLACES, kd_PLACES_raise, ⟨_, rfl⟩⟩,
    d_PLACES_top := ⟨_, _, _, l_k_PLACES, kl_PLACES, kd_PLACES_top, ⟨_, rfl⟩⟩,
    d_PLACES_give := ⟨_, _, _, l_k_PLACES, kl_PLACES, kd_PLACES_give, ⟨_, rfl⟩⟩,
    d_PLACES_take := ⟨_, _, _, l_k_PLACES, kl_PLACES, kd_PLACES_take, ⟨_, rfl⟩⟩,
    gt_MOST_HANDS := gt_MOST_HANDS,
    g_MOST_HANDS := (PySem.W.mg_of X G n_k_MOST_HANDS),
    gt_MOST_DEEDS := gt_MOST_DEEDS,
    g_MOST_DEEDS := (PySem.W.mg_of X G n_k_MOST_DEEDS),
    gt_THINGS := gt_THINGS,
    g_THINGS := (PySem.W.mg_of X G n_k_THINGS),
    bn_len := (PySem.W.mg_none_of X G z_len),
    bn_abs := (PySem.W.mg_none_of X G z_abs),
    bn_sum := (PySem.W.mg_none_of X G z_sum),
    bn_max := (PySem.W.mg_none_of X G z_max),
    bn_min := (PySem.W.mg_none_of X G z_min),
    bn_int := (PySem.W.mg_none_of X G z_int),
    bn_isinstance := (PySem.W.mg_none_of X G z_isinstance),
    bn_list := (PySem.W.mg_none_of X G z_list),
    bn_tuple := (PySem.W.mg_none_of X G z_tuple),
    bn_range := (PySem.W.mg_none_of X G z_range),
    bn_reversed := (PySem.W.mg_none_of X G z_reversed),
    bn_enumerate := (PySem.W.mg_none_of X G z_enumerate),
    bn_ValueError := (PySem.W.mg_none_of X G z_ValueError) }
  exact ⟨E.fd_law, fun s v => .of_eq rfl, fun base _ _ => ok_law E⟩
theorem walk {l : PySem.W.OpenLaw} {q : Program} {loose : List Str} {XP : (Str → Option Value) → Heap → Prop} {YP : World → Heap → Prop} {d : DefRec} {K : Params → PySem.W.Frag} (hn : l.most = some 63) (hdf : d.params.defaults = [])
    (hY : ∀ (w : World) (h : Heap), YP w h → (K w.params).In h)
    (F : ∀ (w : World) (mg : Str → Option Value) (fa : Addr) (h : Heap), (K w.params).In h → h.Ns mainGlobals mg → mg d.name = some (.ref fa) →
      ∃ fd : FuncData, (∀ (s : Shared) (u : Value), BindsTo s fd ⟨[u], []⟩ [("_law_script", u)]) ∧ ∀ base : Heap, (K w.params).In base → base.Ns mainGlobals mg → FnOk l.prog w (K w.params) mg base CX0 8 fa fd ["_law_script"] (spS (S_law (K w.params)))) :
    PySem.W.WalkO q loose XP YP l.row.toRowW d [] (fun f vs => PySem.call f vs) :=
  L2.walk_of (n := 63) (k := 8) (x := "_law_script") (CX := fun _ => CX0) (sp := fun w => spS (S_law (K w.params))) hn (by decide) hdf ⟨rfl, by decide, by decide⟩ hY F (fun _ _ a ns hl _ hS => ⟨_, fun v _ => v = .bl true, Sat.scr hS, ⟨a, ns, rfl, rfl, hl, fun _ => rfl⟩, fun _ _ _ e _ => e⟩) fun _ _ _ _ _ z => z
end My
open PySem PySem.W PyProof.Rows
set_option maxRecDepth 100000 in
set_option maxHeartbeats 0 in
theorem PySem.Challenge.cw_stillhands_k05_deeds_that_are_none_holds : PySem.Challenge.rw_stillhands_k05_deeds_that_are_none.Holds := by
  w_on; o_law; k_head; (case hw => w_witness2)
  k_fill
  refine My.walk (l := PySem.Challenge.rw_stillhands_k05_deeds_that_are_none) rfl rfl (fun w h Y => PySem.W.kIn_of Y) ?F
  case F =>
    intro w mg fa h KX G hmg
    refine' My.all_mk KX G hmg ?n_f_need_deed ?n_f_packed ?n_f_parted ?n_f_cell_of ?n_f_work_of ?n_f__law_cell ?n_f__law_dice ?n_f__law_off ?n_f__law_deed ?n_f__law_plans ?n_f__law_refused ?n_f__law_no_hall ?n_f__law_odd ?n_f_law ?n_c_Boxes ?n_c_Scan ?n_c_Memory ?n_c_Work ?n_c_One ?n_c_Count ?n_c_Look ?n_c_Change ?n_c_Give ?n_c_Take ?n_c_Done ?n_c_Hall ?n_e_HandsError ?n_e_NoNumber ?n_e_NoBox ?n_e_NoHand ?n_e_NoDeed ?n_k_MOST_NUMBER ?n_k_WITH_NUMBER ?n_k_ALONE ?n_k_BASE ?n_k_PLACES ?n_k_MOST_HANDS ?n_k_MOST_DEEDS ?n_k_THINGS ?mi_Boxes ?ma_Boxes_need ?ma_Boxes_take ?ma_Boxes_put ?mi_Scan ?ma_Scan_step ?ma_Scan_looked ?mi_Memory ?mi_Work ?ma_Work_step ?mi_One ?ma_One_step ?mi_Count ?ma_Count_step ?mi_Look ?ma_Look_step ?mi_Change ?ma_Change_step ?mi_Give ?ma_Give_step ?mi_Take ?ma_Take_step ?ma_Take_rank ?mi_Done ?mi_Hall ?ma_Hall_need_hand ?ma_Hall_step ?ma_Hall_records ?l_need_deed ?l_Boxes_init ?l_Boxes_need ?l_Boxes_take ?l_Boxes_put ?l_packed ?l_parted ?l_cell_of ?l_Scan_init ?l_Scan_step ?l_Scan_looked ?l_Memory_init ?l_Work_init ?l_Work_step ?l_One_step ?l_Count_init ?l_Count_step ?l_Look_init ?l_Look_step ?l_Change_init ?l_Change_step ?l_Give_init ?l_Give_step ?l_Take_init ?l_Take_step ?l_Take_rank ?l_work_of ?l_Done_init ?l_Hall_init ?l_Hall_need_hand ?l_Hall_step ?l_Hall_records ?l__law_cell ?l__law_dice ?l__law_off ?l__law_deed ?l__law_plans ?l__law_refused ?l__law_no_hall ?l__law_odd ?l_law ?l_k_WITH_NUMBER ?l_k_ALONE ?l_k_PLACES ?c_need_deed ?kk_need_deed ?c_Boxes_init ?kk_Boxes_init ?c_Boxes_need ?kk_Boxes_need ?c_Boxes_take ?kk_Boxes_take ?c_Boxes_put ?kk_Boxes_put ?c_packed ?kk_packed ?c_parted ?kk_parted ?c_cell_of ?kk_cell_of ?c_Scan_init ?kk_Scan_init ?c_Scan_step ?kk_Scan_step ?c_Scan_looked ?kk_Scan_looked ?c_Memory_init ?kk_Memory_init ?c_Work_init ?kk_Work_init ?c_Work_step ?kk_Work_step ?c_One_step ?kk_One_step ?c_Count_init ?kk_Count_init ?c_Count_step ?kk_Count_step ?c_Look_init ?kk_Look_init ?c_Look_step ?kk_Look_step ?c_Change_init ?kk_Change_init ?c_Change_step ?kk_Change_step ?c_Give_init ?kk_Give_init ?c_Give_step ?kk_Give_step ?c_Take_init ?kk_Take_init ?c_Take_step ?kk_Take_step ?c_Take_rank ?kk_Take_rank ?c_work_of ?kk_work_of ?c_Done_init ?kk_Done_init ?c_Hall_init ?kk_Hall_init ?c_Hall_need_hand ?kk_Hall_need_hand ?c_Hall_step ?kk_Hall_step ?c_Hall_records ?kk_Hall_records ?c__law_cell ?kk__law_cell ?c__law_dice ?kk__law_dice ?c__law_off ?kk__law_off ?c__law_deed ?kk__law_deed ?c__law_plans ?kk__law_plans ?c__law_refused ?kk__law_refused ?c__law_no_hall ?kk__law_no_hall ?c__law_odd ?kk__law_odd ?c_law ?kk_law ?pg_Boxes ?hd_Boxes ?po_Boxes ?sa_Boxes ?kc_Boxes ?no_Boxes_0 ?no_Boxes_1 ?no_Boxes_2 ?mk_Boxes ?if_Boxes ?mf_Boxes_need ?mf_Boxes_take ?mf_Boxes_put ?pg_Scan ?hd_Scan ?po_Scan ?sa_Scan ?kc_Scan ?no_Scan_0 ?no_Scan_1 ?no_Scan_2 ?no_Scan_3 ?no_Scan_4 ?no_Scan_5 ?no_Scan_6 ?no_Scan_7 ?mk_Scan ?if_Scan ?mf_Scan_step ?mf_Scan_looked ?pg_Memory ?hd_Memory ?po_Memory ?sa_Memory ?kc_Memory ?no_Memory_0 ?no_Memory_1 ?no_Memory_2 ?no_Memory_3 ?no_Memory_4 ?mk_Memory ?if_Memory ?pg_Work ?hd_Work ?po_Work ?sa_Work ?kc_Work ?no_Work_0 ?no_Work_1 ?no_Work_2 ?no_Work_3 ?no_Work_4 ?no_Work_5 ?no_Work_6 ?no_Work_7 ?no_Work_8 ?no_Work_9 ?mk_Work ?if_Work ?mf_Work_step ?pg_One ?hd_One ?po_One ?sa_One ?kc_One ?no_One_0 ?no_One_1 ?no_One_2 ?no_One_3 ?no_One_4 ?no_One_5 ?no_One_6 ?no_One_7 ?no_One_8 ?no_One_9 ?mk_One ?if_One ?mf_One_step ?pg_Count ?hd_Count ?po_Count ?sa_Count ?kc_Count ?no_Count_0 ?no_Count_1 ?no_Count_2 ?no_Count_3 ?no_Count_4 ?no_Count_5 ?no_Count_6 ?no_Count_7 ?no_Count_8 ?no_Count_9 ?no_Count_10 ?mk_Count ?if_Count ?mf_Count_step ?pg_Look ?hd_Look ?po_Look ?sa_Look ?kc_Look ?no_Look_0 ?no_Look_1 ?no_Look_2 ?no_Look_3 ?no_Look_4 ?no_Look_5 ?no_Look_6 ?no_Look_7 ?no_Look_8 ?no_Look_9 ?no_Look_10 ?mk_Look ?if_Look ?mf_Look_step ?pg_Change ?hd_Change ?po_Change ?sa_Change ?kc_Change ?no_Change_0 ?no_Change_1 ?no_Change_2 ?no_Change_3 ?no_Change_4 ?no_Change_5 ?no_Change_6 ?no_Change_7 ?no_Change_8 ?no_Change_9 ?no_Change_10 ?mk_Change ?if_Change ?mf_Change_step ?pg_Give ?hd_Give ?po_Give ?sa_Give ?kc_Give ?no_Give_0 ?no_Give_1 ?no_Give_2 ?no_Give_3 ?no_Give_4 ?no_Give_5 ?no_Give_6 ?no_Give_7 ?no_Give_8 ?no_Give_9 ?no_Give_10 ?mk_Give ?if_Give ?mf_Give_step ?pg_Take ?hd_Take ?po_Take ?sa_Take ?kc_Take ?no_Take_0 ?no_Take_1 ?no_Take_2 ?no_Take_3 ?no_Take_4 ?no_Take_5 ?no_Take_6 ?no_Take_7 ?no_Take_8 ?no_Take_9 ?no_Take_10 ?no_Take_11 ?mk_Take ?if_Take ?mf_Take_step ?mf_Take_rank ?pg_Done ?hd_Done ?po_Done ?sa_Done ?kc_Done ?no_Done_0 ?no_Done_1 ?no_Done_2 ?mk_Done ?if_Done ?pg_Hall ?hd_Hall ?po_Hall ?sa_Hall ?kc_Hall ?no_Hall_0 ?no_Hall_1 ?no_Hall_2 ?no_Hall_3 ?no_Hall_4 ?no_Hall_5 ?no_Hall_6 ?no_Hall_7 ?no_Hall_8 ?no_Hall_9 ?mk_Hall ?if_Hall ?mf_Hall_need_hand ?mf_Hall_step ?mf_Hall_records ?bg_rank ?bt_rank ?bf_rank ?rd_Work ?sg_Work ?fc_Work_Work_init ?k_HandsError ?x_HandsError ?xb_HandsError ?xt_HandsError ?k_NoNumber ?x_NoNumber ?xb_NoNumber ?xt_NoNumber ?k_NoBox ?x_NoBox ?xb_NoBox ?xt_NoBox ?k_NoHand ?x_NoHand ?xb_NoHand ?xt_NoHand ?k_NoDeed ?x_NoDeed ?xb_NoDeed ?xt_NoDeed ?hd_HandsError ?cn_ ?ct_ ?hg_NoNumber ?hk_NoNumber ?hd_NoNumber ?ha_NoNumber ?hm_NoNumber ?xs_NoNumber ?kv_NoNumber ?kt_NoNumber_NoNumber ?kt_NoNumber_NoBox ?kt_NoNumber_NoHand ?kt_NoNumber_NoDeed ?hg_NoBox ?hk_NoBox ?hd_NoBox ?ha_NoBox ?hm_NoBox ?xs_NoBox ?kv_NoBox ?kt_NoBox_NoNumber ?kt_NoBox_NoBox ?kt_NoBox_NoHand ?kt_NoBox_NoDeed ?hg_NoHand ?hk_NoHand ?hd_NoHand ?ha_NoHand ?hm_NoHand ?xs_NoHand ?kv_NoHand ?kt_NoHand_NoNumber ?kt_NoHand_NoBox ?kt_NoHand_NoHand ?kt_NoHand_NoDeed ?hg_NoDeed ?hk_NoDeed ?hd_NoDeed ?ha_NoDeed ?hm_NoDeed ?xs_NoDeed ?xss_NoDeed ?kh_NoDeed ?kv_NoDeed ?kt_NoDeed_NoNumber ?kt_NoDeed_NoBox ?kt_NoDeed_NoHand ?kt_NoDeed_NoDeed ?kl_PLACES ?kd_PLACES_one ?kd_PLACES_count ?kd_PLACES_set ?kd_PLACES_look ?kd_PLACES_add ?kd_PLACES_sum ?kd_PLACES_raise ?kd_PLACES_top ?kd_PLACES_give ?kd_PLACES_take ?z_len ?z_abs ?z_sum ?z_max ?z_min ?z_int ?z_isinstance ?z_list ?z_tuple ?z_range ?z_reversed ?z_enumerate ?z_ValueError
    (case n_f_need_deed => k_is)
    (case n_f_packed => k_is)
    (case n_f_parted => k_is)
    (case n_f_cell_of => k_is)
    (case n_f_work_of => k_is)
    (case n_f__law_cell => k_is)
    (case n_f__law_dice => k_is)
    (case n_f__law_off => k_is)
    (case n_f__law_deed => k_is)
    (case n_f__law_plans => k_is)
    (case n_f__law_refused => k_is)
    (case n_f__law_no_hall => k_is)
    (case n_f__law_odd => k_is)
    (case n_f_law => k_is)
    (case n_c_Boxes => k_is)
    (case n_c_Scan => k_is)
    (case n_c_Memory => k_is)
    (case n_c_Work => k_is)
    (case n_c_One => k_is)
    (case n_c_Count => k_is)
    (case n_c_Look => k_is)
    (case n_c_Change => k_is)
    (case n_c_Give => k_is)
    (case n_c_Take => k_is)
    (case n_c_Done => k_is)
    (case n_c_Hall => k_is)
    (case n_e_HandsError => k_is)
    (case n_e_NoNumber => k_is)
    (case n_e_NoBox => k_is)
    (case n_e_NoHand => k_is)
    (case n_e_NoDeed => k_is)
    (case n_k_MOST_NUMBER => k_is)
    (case n_k_WITH_NUMBER => k_is)
    (case n_k_ALONE => k_is)
    (case n_k_BASE => k_is)
    (case n_k_PLACES => k_is)
    (case n_k_MOST_HANDS => k_is)
    (case n_k_MOST_DEEDS => k_is)
    (case n_k_THINGS => k_is)
    (case mi_Boxes => k_is)
    (case ma_Boxes_need => k_is)
    (case ma_Boxes_take => k_is)
    (case ma_Boxes_put => k_is)
    (case mi_Scan => k_is)
    (case ma_Scan_step => k_is)
    (case ma_Scan_looked => k_is)
    (case mi_Memory => k_is)
    (case mi_Work => k_is)
    (case ma_Work_step => k_is)
    (case mi_One => k_is)
    (case ma_One_step => k_is)
    (case mi_Count => k_is)
    (case ma_Count_step => k_is)
    (case mi_Look => k_is)
    (case ma_Look_step => k_is)
    (case mi_Change => k_is)
    (case ma_Change_step => k_is)
    (case mi_Give => k_is)
    (case ma_Give_step => k_is)
    (case mi_Take => k_is)
    (case ma_Take_step => k_is)
    (case ma_Take_rank => k_is)
    (case mi_Done => k_is)
    (case mi_Hall => k_is)
    (case ma_Hall_need_hand => k_is)
    (case ma_Hall_step => k_is)
    (case ma_Hall_records => k_is)
    (case l_need_deed => k_is)
    (case l_Boxes_init => k_is)
    (case l_Boxes_need => k_is)
    (case l_Boxes_take => k_is)
    (case l_Boxes_put => k_is)
    (case l_packed => k_is)
    (case l_parted => k_is)
    (case l_cell_of => k_is)
    (case l_Scan_init => k_is)
    (case l_Scan_step => k_is)
    (case l_Scan_looked => k_is)
    (case l_Memory_init => k_is)
    (case l_Work_init => k_is)
    (case l_Work_step => k_is)
    (case l_One_step => k_is)
    (case l_Count_init => k_is)
    (case l_Count_step => k_is)
    (case l_Look_init => k_is)
    (case l_Look_step => k_is)
    (case l_Change_init => k_is)
    (case l_Change_step => k_is)
    (case l_Give_init => k_is)
    (case l_Give_step => k_is)
    (case l_Take_init => k_is)
    (case l_Take_step => k_is)
    (case l_Take_rank => k_is)
    (case l_work_of => k_is)
    (case l_Done_init => k_is)
    (case l_Hall_init => k_is)
    (case l_Hall_need_hand => k_is)
    (case l_Hall_step => k_is)
    (case l_Hall_records => k_is)
    (case l__law_cell => k_is)
    (case l__law_dice => k_is)
    (case l__law_off => k_is)
    (case l__law_deed => k_is)
    (case l__law_plans => k_is)
    (case l__law_refused => k_is)
    (case l__law_no_hall => k_is)
    (case l__law_odd => k_is)
    (case l_law => k_is)
    (case l_k_WITH_NUMBER => k_is)
    (case l_k_ALONE => k_is)
    (case l_k_PLACES => k_is)
    (case c_need_deed => k_is)
    (case kk_need_deed => k_is)
    (case c_Boxes_init => k_is)
    (case kk_Boxes_init => k_is)
    (case c_Boxes_need => k_is)
    (case kk_Boxes_need => k_is)
    (case c_Boxes_take => k_is)
    (case kk_Boxes_take => k_is)
    (case c_Boxes_put => k_is)
    (case kk_Boxes_put => k_is)
    (case c_packed => k_is)
    (case kk_packed => k_is)
    (case c_parted => k_is)
    (case kk_parted => k_is)
    (case c_cell_of => k_is)
    (case kk_cell_of => k_is)
    (case c_Scan_init => k_is)
    (case kk_Scan_init => k_is)
    (case c_Scan_step => k_is)
    (case kk_Scan_step => k_is)
    (case c_Scan_looked => k_is)
    (case kk_Scan_looked => k_is)
    (case c_Memory_init => k_is)
    (case kk_Memory_init => k_is)
    (case c_Work_init => k_is)
    (case kk_Work_init => k_is)
    (case c_Work_step => k_is)
    (case kk_Work_step => k_is)
    (case c_One_step => k_is)
    (case kk_One_step => k_is)
    (case c_Count_init => k_is)
    (case kk_Count_init => k_is)
    (case c_Count_step => k_is)
    (case kk_Count_step => k_is)
    (case c_Look_init => k_is)
    (case kk_Look_init => k_is)
    (case c_Look_step => k_is)
    (case kk_Look_step => k_is)
    (case c_Change_init => k_is)
    (case kk_Change_init => k_is)
    (case c_Change_step => k_is)
    (case kk_Change_step => k_is)
    (case c_Give_init => k_is)
    (case kk_Give_init => k_is)
    (case c_Give_step => k_is)
    (case kk_Give_step => k_is)
    (case c_Take_init => k_is)
    (case kk_Take_init => k_is)
    (case c_Take_step => k_is)
    (case kk_Take_step => k_is)
    (case c_Take_rank => k_is)
    (case kk_Take_rank => k_is)
    (case c_work_of => k_is)
    (case kk_work_of => k_is)
    (case c_Done_init => k_is)
    (case kk_Done_init => k_is)
    (case c_Hall_init => k_is)
    (case kk_Hall_init => k_is)
    (case c_Hall_need_hand => k_is)
    (case kk_Hall_need_hand => k_is)
    (case c_Hall_step => k_is)
    (case kk_Hall_step => k_is)
    (case c_Hall_records => k_is)
    (case kk_Hall_records => k_is)
    (case c__law_cell => k_is)
    (case kk__law_cell => k_is)
    (case c__law_dice => k_is)
    (case kk__law_dice => k_is)
    (case c__law_off => k_is)
    (case kk__law_off => k_is)
    (case c__law_deed => k_is)
    (case kk__law_deed => k_is)
    (case c__law_plans => k_is)
    (case kk__law_plans => k_is)
    (case c__law_refused => k_is)
    (case kk__law_refused => k_is)
    (case c__law_no_hall => k_is)
    (case kk__law_no_hall => k_is)
    (case c__law_odd => k_is)
    (case kk__law_odd => k_is)
    (case c_law => k_is)
    (case kk_law => k_is)
    (case pg_Boxes => k_is)
    (case hd_Boxes => k_is)
    (case po_Boxes => k_is)
    (case sa_Boxes => k_is)
    (case kc_Boxes => k_is)
    (case no_Boxes_0 => k_is)
    (case no_Boxes_1 => k_is)
    (case no_Boxes_2 => k_is)
    (case mk_Boxes => k_is)
    (case if_Boxes => k_is)
    (case mf_Boxes_need => k_is)
    (case mf_Boxes_take => k_is)
    (case mf_Boxes_put => k_is)
    (case pg_Scan => k_is)
    (case hd_Scan => k_is)
    (case po_Scan => k_is)
    (case sa_Scan => k_is)
    (case kc_Scan => k_is)
    (case no_Scan_0 => k_is)
    (case no_Scan_1 => k_is)
    (case no_Scan_2 => k_is)
    (case no_Scan_3 => k_is)
    (case no_Scan_4 => k_is)
    (case no_Scan_5 => k_is)
    (case no_Scan_6 => k_is)
    (case no_Scan_7 => k_is)
    (case mk_Scan => k_is)
    (case if_Scan => k_is)
    (case mf_Scan_step => k_is)
    (case mf_Scan_looked => k_is)
    (case pg_Memory => k_is)
    (case hd_Memory => k_is)
    (case po_Memory => k_is)
    (case sa_Memory => k_is)
    (case kc_Memory => k_is)
    (case no_Memory_0 => k_is)
    (case no_Memory_1 => k_is)
    (case no_Memory_2 => k_is)
    (case no_Memory_3 => k_is)
    (case no_Memory_4 => k_is)
    (case mk_Memory => k_is)
    (case if_Memory => k_is)
    (case pg_Work => k_is)
    (case hd_Work => k_is)
    (case po_Work => k_is)
    (case sa_Work => k_is)
    (case kc_Work => k_is)
    (case no_Work_0 => k_is)
    (case no_Work_1 => k_is)
    (case no_Work_2 => k_is)
    (case no_Work_3 => k_is)
    (case no_Work_4 => k_is)
    (case no_Work_5 => k_is)
    (case no_Work_6 => k_is)
    (case no_Work_7 => k_is)
    (case no_Work_8 => k_is)
    (case no_Work_9 => k_is)
    (case mk_Work => k_is)
    (case if_Work => k_is)
    (case mf_Work_step => k_is)
    (case pg_One => k_is)
    (case hd_One => k_is)
    (case po_One => k_is)
    (case sa_One => k_is)
    (case kc_One => k_is)
    (case no_One_0 => k_is)
    (case no_One_1 => k_is)
    (case no_One_2 => k_is)
    (case no_One_3 => k_is)
    (case no_One_4 => k_is)
    (case no_One_5 => k_is)
    (case no_One_6 => k_is)
    (case no_One_7 => k_is)
    (case no_One_8 => k_is)
    (case no_One_9 => k_is)
    (case mk_One => k_is)
    (case if_One => k_is)
    (case mf_One_step => k_is)
    (case pg_Count => k_is)
    (case hd_Count => k_is)
    (case po_Count => k_is)
    (case sa_Count => k_is)
    (case kc_Count => k_is)
    (case no_Count_0 => k_is)
    (case no_Count_1 => k_is)
    (case no_Count_2 => k_is)
    (case no_Count_3 => k_is)
    (case no_Count_4 => k_is)
    (case no_Count_5 => k_is)
    (case no_Count_6 => k_is)
    (case no_Count_7 => k_is)
    (case no_Count_8 => k_is)
    (case no_Count_9 => k_is)
    (case no_Count_10 => k_is)
    (case mk_Count => k_is)
    (case if_Count => k_is)
    (case mf_Count_step => k_is)
    (case pg_Look => k_is)
    (case hd_Look => k_is)
    (case po_Look => k_is)
    (case sa_Look => k_is)
    (case kc_Look => k_is)
    (case no_Look_0 => k_is)
    (case no_Look_1 => k_is)
    (case no_Look_2 => k_is)
    (case no_Look_3 => k_is)
    (case no_Look_4 => k_is)
    (case no_Look_5 => k_is)
    (case no_Look_6 => k_is)
    (case no_Look_7 => k_is)
    (case no_Look_8 => k_is)
    (case no_Look_9 => k_is)
    (case no_Look_10 => k_is)
    (case mk_Look => k_is)
    (case if_Look => k_is)
    (case mf_Look_step => k_is)
    (case pg_Change => k_is)
    (case hd_Change => k_is)
    (case po_Change => k_is)
    (case sa_Change => k_is)
    (case kc_Change => k_is)
    (case no_Change_0 => k_is)
    (case no_Change_1 => k_is)
    (case no_Change_2 => k_is)
    (case no_Change_3 => k_is)
    (case no_Change_4 => k_is)
    (case no_Change_5 => k_is)
    (case no_Change_6 => k_is)
    (case no_Change_7 => k_is)
    (case no_Change_8 => k_is)
    (case no_Change_9 => k_is)
    (case no_Change_10 => k_is)
    (case mk_Change => k_is)
    (case if_Change => k_is)
    (case mf_Change_step => k_is)
    (case pg_Give => k_is)
    (case hd_Give => k_is)
    (case po_Give => k_is)
    (case sa_Give => k_is)
    (case kc_Give => k_is)
    (case no_Give_0 => k_is)
    (case no_Give_1 => k_is)
    (case no_Give_2 => k_is)
    (case no_Give_3 => k_is)
    (case no_Give_4 => k_is)
    (case no_Give_5 => k_is)
    (case no_Give_6 => k_is)
    (case no_Give_7 => k_is)
    (case no_Give_8 => k_is)
    (case no_Give_9 => k_is)
    (case no_Give_10 => k_is)
    (case mk_Give => k_is)
    (case if_Give => k_is)
    (case mf_Give_step => k_is)
    (case pg_Take => k_is)
    (case hd_Take => k_is)
    (case po_Take => k_is)
    (case sa_Take => k_is)
    (case kc_Take => k_is)
    (case no_Take_0 => k_is)
    (case no_Take_1 => k_is)
    (case no_Take_2 => k_is)
    (case no_Take_3 => k_is)
    (case no_Take_4 => k_is)
    (case no_Take_5 => k_is)
    (case no_Take_6 => k_is)
    (case no_Take_7 => k_is)
    (case no_Take_8 => k_is)
    (case no_Take_9 => k_is)
    (case no_Take_10 => k_is)
    (case no_Take_11 => k_is)
    (case mk_Take => k_is)
    (case if_Take => k_is)
    (case mf_Take_step => k_is)
    (case mf_Take_rank => k_is)
    (case pg_Done => k_is)
    (case hd_Done => k_is)
    (case po_Done => k_is)
    (case sa_Done => k_is)
    (case kc_Done => k_is)
    (case no_Done_0 => k_is)
    (case no_Done_1 => k_is)
    (case no_Done_2 => k_is)
    (case mk_Done => k_is)
    (case if_Done => k_is)
    (case pg_Hall => k_is)
    (case hd_Hall => k_is)
    (case po_Hall => k_is)
    (case sa_Hall => k_is)
    (case kc_Hall => k_is)
    (case no_Hall_0 => k_is)
    (case no_Hall_1 => k_is)
    (case no_Hall_2 => k_is)
    (case no_Hall_3 => k_is)
    (case no_Hall_4 => k_is)
    (case no_Hall_5 => k_is)
    (case no_Hall_6 => k_is)
    (case no_Hall_7 => k_is)
    (case no_Hall_8 => k_is)
    (case no_Hall_9 => k_is)
    (case mk_Hall => k_is)
    (case if_Hall => k_is)
    (case mf_Hall_need_hand => k_is)
    (case mf_Hall_step => k_is)
    (case mf_Hall_records => k_is)
    (case bg_rank => k_is)
    (case bt_rank => k_is)
    (case bf_rank => k_is)
    (case rd_Work => k_is)
    (case sg_Work => k_is)
    (case fc_Work_Work_init => k_is)
    (case k_HandsError => k_is)
    (case x_HandsError => k_exc)
    (case xb_HandsError => k_is)
    (case xt_HandsError => k_is)
    (case k_NoNumber => k_is)
    (case x_NoNumber => k_exc)
    (case xb_NoNumber => k_is)
    (case xt_NoNumber => k_is)
    (case k_NoBox => k_is)
    (case x_NoBox => k_exc)
    (case xb_NoBox => k_is)
    (case xt_NoBox => k_is)
    (case k_NoHand => k_is)
    (case x_NoHand => k_exc)
    (case xb_NoHand => k_is)
    (case xt_NoHand => k_is)
    (case k_NoDeed => k_is)
    (case x_NoDeed => k_exc)
    (case xb_NoDeed => k_is)
    (case xt_NoDeed => k_is)
    (case hd_HandsError => k_is)
    (case cn_ => k_is)
    (case ct_ => k_is)
    (case hg_NoNumber => k_is)
    (case hk_NoNumber => k_is)
    (case hd_NoNumber => k_is)
    (case ha_NoNumber => k_is)
    (case hm_NoNumber => k_is)
    (case xs_NoNumber => k_is)
    (case kv_NoNumber => kit_is)
    (case kt_NoNumber_NoNumber => kit_is)
    (case kt_NoNumber_NoBox => kit_is)
    (case kt_NoNumber_NoHand => kit_is)
    (case kt_NoNumber_NoDeed => kit_is)
    (case hg_NoBox => k_is)
    (case hk_NoBox => k_is)
    (case hd_NoBox => k_is)
    (case ha_NoBox => k_is)
    (case hm_NoBox => k_is)
    (case xs_NoBox => k_is)
    (case kv_NoBox => kit_is)
    (case kt_NoBox_NoNumber => kit_is)
    (case kt_NoBox_NoBox => kit_is)
    (case kt_NoBox_NoHand => kit_is)
    (case kt_NoBox_NoDeed => kit_is)
    (case hg_NoHand => k_is)
    (case hk_NoHand => k_is)
    (case hd_NoHand => k_is)
    (case ha_NoHand => k_is)
    (case hm_NoHand => k_is)
    (case xs_NoHand => k_is)
    (case kv_NoHand => kit_is)
    (case kt_NoHand_NoNumber => kit_is)
    (case kt_NoHand_NoBox => kit_is)
    (case kt_NoHand_NoHand => kit_is)
    (case kt_NoHand_NoDeed => kit_is)
    (case hg_NoDeed => k_is)
    (case hk_NoDeed => k_is)
    (case hd_NoDeed => k_is)
    (case ha_NoDeed => k_is)
    (case hm_NoDeed => k_is)
    (case xs_NoDeed => k_is)
    (case xss_NoDeed => k_is)
    (case kh_NoDeed => kit_is)
    (case kv_NoDeed => kit_is)
    (case kt_NoDeed_NoNumber => kit_is)
    (case kt_NoDeed_NoBox => kit_is)
    (case kt_NoDeed_NoHand => kit_is)
    (case kt_NoDeed_NoDeed => kit_is)
    (case kl_PLACES => exact ⟨⟨_, _, rfl, rfl⟩, ⟨⟨_, _, rfl, rfl⟩, ⟨⟨_, _, rfl, rfl⟩, ⟨⟨_, _, rfl, rfl⟩, ⟨⟨_, _, rfl, rfl⟩, ⟨⟨_, _, rfl, rfl⟩, ⟨⟨_, _, rfl, rfl⟩, ⟨⟨_, _, rfl, rfl⟩, ⟨⟨_, _, rfl, rfl⟩, ⟨⟨_, _, rfl, rfl⟩, trivial⟩⟩⟩⟩⟩⟩⟩⟩⟩⟩)
    (case kd_PLACES_one => k_is)
    (case kd_PLACES_count => k_is)
    (case kd_PLACES_set => k_is)
    (case kd_PLACES_look => k_is)
    (case kd_PLACES_add => k_is)
    (case kd_PLACES_sum => k_is)
    (case kd_PLACES_raise => k_is)
    (case kd_PLACES_top => k_is)
    (case kd_PLACES_give => k_is)
    (case kd_PLACES_take => k_is)
    (case z_len => k_is)
    (case z_abs => k_is)
    (case z_sum => k_is)
    (case z_max => k_is)
    (case z_min => k_is)
    (case z_int => k_is)
    (case z_isinstance => k_is)
    (case z_list => k_is)
    (case z_tuple => k_is)
    (case z_range => k_is)
    (case z_reversed => k_is)
    (case z_enumerate => k_is)
    (case z_ValueError => k_is)
