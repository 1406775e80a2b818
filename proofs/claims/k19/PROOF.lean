import PyProof.Rows.All
import Wide.All
import OpenK.AllK
import Wide.FinOn
import HandS.ForMost
import HandS.Exc
import HandS.ExcOwn
import HandS.WordsExc
import HandS.TryOnly
import HandS.SortInts
import HandS.Conv
import HandS.RevRange
import HandS.IsInst
import HandS.TupAny
import HandS.Zip
import HandS.Rev
import HandS.Evl
import HandS.ExcIs
import HandS.RevTup
import HandS.More
import HandS.TupMul
import HandS.ClsMeth
import HandS.FromBytesMap
import HandS.TupLe
import HandS.SortKw
import KE.KMinKey
import KE.KMinBuiltin
import PySem.Challenge.RW_stillhands_k19_counts_lie_between
set_option genSizeOf false
set_option genSizeOfSpec false
set_option genInjectivity false
set_option compiler.extract_closed false
set_option bootstrap.genMatcherCode false
set_option Elab.async false
set_option linter.all false
set_option maxRecDepth 100000
set_option maxHeartbeats 4000000
namespace Sp
open PySem L2
noncomputable abbrev Cell := Addr × HO
noncomputable abbrev HP := List Cell → Prop
@[irreducible] noncomputable def pt (a : Addr) (o : HO) : HP := fun L => L = [(a, o)]
noncomputable def stars : List HP → HP
  | [] => fun L => L = []
  | p :: ps => fun L => ∃ L1 L2, L = L1 ++ L2 ∧ p L1 ∧ stars ps L2
noncomputable def Own (H : Hp) (L : List Cell) : Prop := (L.map (·.1)).Nodup ∧ ∀ c ∈ L, H c.1 = some c.2
@[irreducible] noncomputable def Sat (H : Hp) (ps : List HP) : Prop := ∃ L, Own H L ∧ stars ps L
@[irreducible] noncomputable def pur (φ : Prop) : HP := fun L => L = [] ∧ φ
@[irreducible] noncomputable def exh {α : Type} (f : α → HP) : HP := fun L => ∃ x, f x L
@[irreducible] noncomputable def grp (qs : List HP) : HP := stars qs
theorem Own.perm {H : Hp} {L L' : List Cell} (p : L.Perm L') (h : Own H L) : Own H L' :=
  ⟨(p.map _).nodup_iff.mp h.1, fun c hc => h.2 c (p.mem_iff.mpr hc)⟩
theorem stars_perm {ps ps' : List HP} (p : ps.Perm ps') : ∀ {L}, stars ps L → ∃ L', L.Perm L' ∧ stars ps' L' := by
  induction p with
  | nil => intro L h; exact ⟨L, .refl _, h⟩
  | cons x _ ih =>
    rintro L ⟨L1, L2, rfl, h1, h2⟩
    obtain ⟨L', p', h'⟩ := ih h2
    exact ⟨L1 ++ L', p'.append_left L1, L1, L', rfl, h1, h'⟩
  | swap x y l =>
    rintro L ⟨L1, L2, rfl, h1, L3, L4, rfl, h2, h3⟩
    refine ⟨L3 ++ (L1 ++ L4), ?_, L3, L1 ++ L4, rfl, h2, L1, L4, rfl, h1, h3⟩
    rw [← List.append_assoc, ← List.append_assoc]
    exact (List.perm_append_comm).append_right L4
  | trans _ _ ih1 ih2 =>
    intro L h
    obtain ⟨L1, p1, h1⟩ := ih1 h
    obtain ⟨L2, p2, h2⟩ := ih2 h1
    exact ⟨L2, p1.trans p2, h2⟩
theorem stars_mem {p : HP} {ps : List HP} (m : p ∈ ps) : ∀ {L}, stars ps L → ∃ L1, p L1 ∧ ∀ c ∈ L1, c ∈ L := by
  induction m with
  | head r => rintro L ⟨L1, L2, rfl, h1, _⟩; exact ⟨L1, h1, fun c hc => List.mem_append_left _ hc⟩
  | tail b m ih =>
    rintro L ⟨L1, L2, rfl, _, h2⟩
    obtain ⟨L3, h3, k⟩ := ih h2
    exact ⟨L3, h3, fun c hc => List.mem_append_right _ (k c hc)⟩
theorem stars_append {ps qs : List HP} : ∀ {L}, stars (ps ++ qs) L ↔ ∃ L1 L2, L = L1 ++ L2 ∧ stars ps L1 ∧ stars qs L2 := by
  induction ps with
  | nil =>
    intro L
    constructor
    · intro h; exact ⟨[], L, rfl, rfl, h⟩
    · rintro ⟨L1, L2, rfl, h1, h2⟩
      have h1 : L1 = [] := h1
      subst h1; exact h2
  | cons p ps ih =>
    intro L
    constructor
    · rintro ⟨L1, L2, rfl, h1, h2⟩
      obtain ⟨L3, L4, rfl, h3, h4⟩ := ih.mp h2
      exact ⟨L1 ++ L3, L4, (List.append_assoc _ _ _).symm, ⟨L1, L3, rfl, h1, h3⟩, h4⟩
    · rintro ⟨L1, L2, rfl, ⟨L3, L4, rfl, h3, h4⟩, h2⟩
      exact ⟨L3, L4 ++ L2, List.append_assoc _ _ _, h3, ih.mpr ⟨L4, L2, rfl, h4, h2⟩⟩
section
variable {H : Hp} {ps ps' qs R : List HP} {a : Addr} {o o' : HO}
theorem Sat.perm (p : ps.Perm ps') (h : Sat H ps) : Sat H ps' := by
  unfold Sat at *
  obtain ⟨L, hO, hL⟩ := h
  obtain ⟨L', p', h'⟩ := stars_perm p hL
  exact ⟨L', hO.perm p', h'⟩
theorem Sat.drop {p : HP} (h : Sat H (p :: ps)) : Sat H ps := by
  unfold Sat at *
  obtain ⟨L, hO, L1, L2, rfl, _, h2⟩ := h
  refine ⟨L2, ⟨?_, fun c hc => hO.2 c (List.mem_append_right _ hc)⟩, h2⟩
  have := hO.1
  rw [List.map_append] at this
  exact (List.nodup_append.mp this).2.1
theorem Sat.get (h : Sat H ps) (m : pt a o ∈ ps) : H a = some o := by
  unfold Sat at h
  obtain ⟨L, hO, hL⟩ := h
  obtain ⟨L1, h1, k⟩ := stars_mem m hL
  unfold pt at h1
  subst h1
  exact hO.2 (a, o) (k _ (List.mem_cons_self ..))
theorem Sat.pur {φ : Prop} : Sat H (pur φ :: ps) ↔ φ ∧ Sat H ps := by
  unfold Sat Sp.pur
  constructor
  · rintro ⟨L, hO, L1, L2, rfl, ⟨rfl, h1⟩, h2⟩
    exact ⟨h1, L2, hO, h2⟩
  · rintro ⟨h1, L, hO, h2⟩
    exact ⟨L, hO, [], L, rfl, ⟨rfl, h1⟩, h2⟩
theorem Sat.ex {α : Type} {f : α → HP} : Sat H (exh f :: ps) ↔ ∃ x, Sat H (f x :: ps) := by
  unfold Sat exh
  constructor
  · rintro ⟨L, hO, L1, L2, rfl, ⟨x, h1⟩, h2⟩
    exact ⟨x, _, hO, L1, L2, rfl, h1, h2⟩
  · rintro ⟨x, L, hO, L1, L2, rfl, h1, h2⟩
    exact ⟨_, hO, L1, L2, rfl, ⟨x, h1⟩, h2⟩
theorem Sat.grp : Sat H (grp qs :: ps) ↔ Sat H (qs ++ ps) := by
  unfold Sat Sp.grp
  constructor
  · rintro ⟨L, hO, L1, L2, rfl, h1, h2⟩
    exact ⟨_, hO, stars_append.mpr ⟨L1, L2, rfl, h1, h2⟩⟩
  · rintro ⟨L, hO, h⟩
    obtain ⟨L1, L2, rfl, h1, h2⟩ := stars_append.mp h
    exact ⟨_, hO, L1, L2, rfl, h1, h2⟩
theorem Sat.new (h : Sat H ps) (hp : H a = none) : Sat (upd H a o) (pt a o :: ps) := by
  unfold Sat at *
  obtain ⟨L, hO, hL⟩ := h
  have nm : ∀ c ∈ L, c.1 ≠ a := fun c hc e => by
    have := hO.2 c hc
    rw [e, hp] at this; cases this
  refine ⟨(a, o) :: L, ⟨List.nodup_cons.mpr ⟨fun m => ?_, hO.1⟩, fun c hc => ?_⟩, [(a, o)], L, rfl, by unfold pt; rfl, hL⟩
  · obtain ⟨c, hc, e⟩ := List.mem_map.mp m
    exact nm c hc e
  · rcases List.mem_cons.mp hc with e | hc
    · subst e; exact upd_same
    · rw [upd_ne (nm c hc)]; exact hO.2 c hc
theorem Sat.write (h : Sat H (pt a o :: ps)) : Sat (upd H a o') (pt a o' :: ps) := by
  unfold Sat at *
  obtain ⟨L, hO, L1, L2, rfl, h1, h2⟩ := h
  unfold pt at h1
  subst h1
  have nd : (a :: L2.map (·.1)).Nodup := hO.1
  obtain ⟨n1, n2⟩ := List.nodup_cons.mp nd
  have nm : ∀ c ∈ L2, c.1 ≠ a := fun c hc e => n1 (List.mem_map.mpr ⟨c, hc, e⟩)
  refine ⟨(a, o') :: L2, ⟨List.nodup_cons.mpr ⟨n1, n2⟩, fun c hc => ?_⟩, [(a, o')], L2, rfl, by unfold pt; rfl, h2⟩
  rcases List.mem_cons.mp hc with e | hc
  · subst e; exact upd_same
  · rw [upd_ne (nm c hc)]; exact hO.2 c (List.mem_cons_of_mem _ hc)
theorem Sat.nil : Sat H [] := by
  unfold Sat
  exact ⟨[], ⟨List.nodup_nil, fun c hc => nomatch hc⟩, rfl⟩
end
inductive Pick (c : HP) : List HP → List HP → Prop
  | hd {r : List HP} : Pick c (c :: r) r
  | tl {d : HP} {r R : List HP} (h : Pick c r R) : Pick c (d :: r) (d :: R)
theorem Pick.perm {c : HP} {ps R : List HP} (h : Pick c ps R) : ps.Perm (c :: R) := by
  induction h with
  | hd => exact .refl _
  | tl _ ih => exact (List.Perm.cons _ ih).trans (List.Perm.swap _ _ _)
theorem Pick.mem {c : HP} {ps R : List HP} (h : Pick c ps R) : c ∈ ps := h.perm.mem_iff.mpr (List.mem_cons_self ..)
inductive Picks : List HP → List HP → List HP → Prop
  | nil {ps : List HP} : Picks [] ps ps
  | cons {c : HP} {cs ps R1 R : List HP} (h : Pick c ps R1) (t : Picks cs R1 R) : Picks (c :: cs) ps R
theorem Picks.perm {cs ps R : List HP} (h : Picks cs ps R) : ps.Perm (cs ++ R) := by
  induction h with
  | nil => exact .refl _
  | cons h _ ih => exact h.perm.trans (.cons _ ih)
inductive Rep (c d : HP) : List HP → List HP → Prop
  | hd {r : List HP} : Rep c d (c :: r) (d :: r)
  | tl {e : HP} {r R : List HP} (h : Rep c d r R) : Rep c d (e :: r) (e :: R)
theorem Rep.two {c d : HP} {ps ps' : List HP} (h : Rep c d ps ps') : ∃ R, ps.Perm (c :: R) ∧ ps'.Perm (d :: R) := by
  induction h with
  | hd => exact ⟨_, .refl _, .refl _⟩
  | tl _ ih =>
    obtain ⟨R, p1, p2⟩ := ih
    exact ⟨_ :: R, (List.Perm.cons _ p1).trans (List.Perm.swap _ _ _), (List.Perm.cons _ p2).trans (List.Perm.swap _ _ _)⟩
theorem Rep.mem {c d : HP} {ps ps' : List HP} (h : Rep c d ps ps') : c ∈ ps := by
  obtain ⟨R, p, _⟩ := h.two
  exact p.mem_iff.mpr (List.mem_cons_self ..)
theorem Sat.rep {H : Hp} {a : Addr} {o o' : HO} {ps ps' : List HP} (h : Sat H ps) (r : Rep (pt a o) (pt a o') ps ps') : Sat (upd H a o') ps' := by
  obtain ⟨R, p, q⟩ := r.two
  exact ((h.perm p).write).perm q.symm
noncomputable def Ent (ps ps' : List HP) : Prop := ∀ H, Sat H ps → Sat H ps'
theorem Ent.refl (ps : List HP) : Ent ps ps := fun _ h => h
theorem Ent.rf {ps : List HP} : Ent ps ps := fun _ h => h
theorem Ent.trans {a b c : List HP} (h : Ent a b) (k : Ent b c) : Ent a c := fun H x => k H (h H x)
theorem Ent.perm {a b : List HP} (p : a.Perm b) : Ent a b := fun _ h => h.perm p
theorem Ent.picks {cs ps R : List HP} (h : Picks cs ps R) : Ent ps (cs ++ R) := Ent.perm h.perm
theorem Ent.drop {p : HP} {ps : List HP} : Ent (p :: ps) ps := fun _ h => h.drop
theorem Ent.dropAll : ∀ {cs ps : List HP}, Ent (cs ++ ps) ps
  | [], _ => Ent.refl _
  | _ :: _, _ => Ent.drop.trans Ent.dropAll
theorem Ent.cons {p : HP} {ps ps' : List HP} (h : Ent ps ps') : Ent (p :: ps) (p :: ps') := by
  intro H x
  unfold Sat at *
  obtain ⟨L, hO, L1, L2, rfl, h1, h2⟩ := x
  have hO2 : Own H L2 := ⟨by
    have := hO.1
    rw [List.map_append] at this
    exact (List.nodup_append.mp this).2.1, fun c hc => hO.2 c (List.mem_append_right _ hc)⟩
  -- the rest holds in the heap of L2 alone
  let H2 : Hp := fun a => ((L2.find? fun c => decide (c.1 = a)).map (·.2))
  have hH2 : Own H2 L2 := ⟨hO2.1, fun c hc => by
    show ((L2.find? fun d => decide (d.1 = c.1)).map (·.2)) = some c.2
    cases e : L2.find? (fun d => decide (d.1 = c.1)) with
    | none =>
      have := List.find?_eq_none.mp e c hc
      simp at this
    | some d =>
      have h1 := List.find?_some e
      have h2 := List.mem_of_find?_eq_some e
      have h3 : d.1 = c.1 := by simpa using h1
      have e1 := hO2.2 d h2
      have e2 := hO2.2 c hc
      rw [h3, e2] at e1
      have : d.2 = c.2 := (Option.some.inj e1).symm
      simp [this]⟩
  have x2 : Sat H2 ps := by unfold Sat; exact ⟨L2, hH2, h2⟩
  have x3 := h H2 x2
  unfold Sat at x3
  obtain ⟨L3, hO3, h3⟩ := x3
  have sub : ∀ c ∈ L3, c ∈ L2 := fun c hc => by
    have e := hO3.2 c hc
    have e' : ((L2.find? fun d => decide (d.1 = c.1)).map (·.2)) = some c.2 := e
    cases e2 : L2.find? (fun d => decide (d.1 = c.1)) with
    | none => rw [e2] at e'; cases e'
    | some d =>
      rw [e2] at e'
      have m := List.mem_of_find?_eq_some e2
      have k1 : d.1 = c.1 := by simpa using List.find?_some e2
      have k2 : d.2 = c.2 := by simpa using e'
      have : d = c := Prod.ext k1 k2
      rw [← this]; exact m
  refine ⟨L1 ++ L3, ⟨?_, fun c hc => ?_⟩, L1, L3, rfl, h1, h3⟩
  · have n := hO.1
    rw [List.map_append] at n ⊢
    obtain ⟨n1, _, n3⟩ := List.nodup_append.mp n
    refine List.nodup_append.mpr ⟨n1, hO3.1, fun a ha b hb => ?_⟩
    obtain ⟨c, hc, e⟩ := List.mem_map.mp hb
    exact n3 a ha b (List.mem_map.mpr ⟨c, sub c hc, e⟩)
  · rcases List.mem_append.mp hc with m | m
    · exact hO.2 c (List.mem_append_left _ m)
    · exact hO2.2 c (sub c m)
theorem Ent.app {cs ps ps' : List HP} (h : Ent ps ps') : Ent (cs ++ ps) (cs ++ ps') := by
  induction cs with
  | nil => exact h
  | cons c cs ih => exact Ent.cons ih
theorem Ent.left {cs ds R : List HP} (h : Ent cs ds) : Ent (cs ++ R) (ds ++ R) :=
  (Ent.perm List.perm_append_comm).trans ((Ent.app h).trans (Ent.perm List.perm_append_comm))
theorem Ent.ex {α : Type} {f : α → HP} {ps : List HP} (x : α) : Ent (f x :: ps) (exh f :: ps) := fun _ h => Sat.ex.mpr ⟨x, h⟩
end Sp
set_option Elab.async false
set_option linter.all false
set_option maxRecDepth 100000
set_option maxHeartbeats 4000000
namespace Sp
open PySem L2
noncomputable def We (te : TE) (σ : L2.St) (ps : List HP) (Φ : V → List HP → Prop) : Prop := ∀ (H : Hp) (Q : VK), Sat H ps → (∀ v ps' H', Φ v ps' → Sat H' ps' → Q v H') → te σ H Q
noncomputable def Wt (t : TT) (σ : L2.St) (ps : List HP) (Φ : Bool → List HP → Prop) : Prop := ∀ (H : Hp) (Q : Bool → Hp → Prop), Sat H ps → (∀ v ps' H', Φ v ps' → Sat H' ps' → Q v H') → t σ H Q
noncomputable def Wa (t : TA) (σ : L2.St) (ps : List HP) (Φ : List V → List HP → Prop) : Prop := ∀ (H : Hp) (Q : List V → Hp → Prop), Sat H ps → (∀ v ps' H', Φ v ps' → Sat H' ps' → Q v H') → t σ H Q
noncomputable def Wo (t : TO) (σ : L2.St) (ps : List HP) (Φ : Option Int → List HP → Prop) : Prop := ∀ (H : Hp) (Q : Option Int → Hp → Prop), Sat H ps → (∀ v ps' H', Φ v ps' → Sat H' ps' → Q v H') → t σ H Q
noncomputable def W1 (r : V → Hp → VK → Prop) (x : V) (ps : List HP) (Φ : V → List HP → Prop) : Prop := ∀ (H : Hp) (Q : VK), Sat H ps → (∀ v ps' H', Φ v ps' → Sat H' ps' → Q v H') → r x H Q
noncomputable def W2 (r : R2) (x y : V) (ps : List HP) (Φ : V → List HP → Prop) : Prop := ∀ (H : Hp) (Q : VK), Sat H ps → (∀ v ps' H', Φ v ps' → Sat H' ps' → Q v H') → r x y H Q
noncomputable def Wc (r : List V → Hp → VK → Prop) (vs : List V) (ps : List HP) (Φ : V → List HP → Prop) : Prop := ∀ (H : Hp) (Q : VK), Sat H ps → (∀ v ps' H', Φ v ps' → Sat H' ps' → Q v H') → r vs H Q
noncomputable def Wm (r : V → List V → Hp → VK → Prop) (x : V) (vs : List V) (ps : List HP) (Φ : V → List HP → Prop) : Prop := ∀ (H : Hp) (Q : VK), Sat H ps → (∀ v ps' H', Φ v ps' → Sat H' ps' → Q v H') → r x vs H Q
noncomputable def Wsl (r : V → Option Int → Option Int → Hp → VK → Prop) (x : V) (lo hi : Option Int) (ps : List HP) (Φ : V → List HP → Prop) : Prop := ∀ (H : Hp) (Q : VK), Sat H ps → (∀ v ps' H', Φ v ps' → Sat H' ps' → Q v H') → r x lo hi H Q
noncomputable def Wg (g : TG) (v : V) (σ : L2.St) (ps : List HP) (Φ : L2.St → List HP → Prop) : Prop := ∀ (H : Hp) (Q : L2.St → Hp → Prop), Sat H ps → (∀ σ' ps' H', Φ σ' ps' → Sat H' ps' → Q σ' H') → g v σ H Q
noncomputable def Wgs (g : TGs) (v : List V) (σ : L2.St) (ps : List HP) (Φ : L2.St → List HP → Prop) : Prop := ∀ (H : Hp) (Q : L2.St → Hp → Prop), Sat H ps → (∀ σ' ps' H', Φ σ' ps' → Sat H' ps' → Q σ' H') → g v σ H Q
noncomputable def Wst (t : TSet) (o i v : V) (ps : List HP) (Φ : List HP → Prop) : Prop := ∀ (H : Hp) (Q : Hp → Prop), Sat H ps → (∀ ps' H', Φ ps' → Sat H' ps' → Q H') → t o i v H Q
noncomputable abbrev PN := L2.St → List HP → Prop
structure Le (nx : PN) (rt : V → List HP → Prop) (bk ct : PN) (D' : Ends) : Prop where
  nx : ∀ σ ps H, nx σ ps → Sat H ps → D'.nx σ H
  rt : ∀ v ps H, rt v ps → Sat H ps → D'.rt v H
  bk : ∀ σ ps H, bk σ ps → Sat H ps → D'.bk σ H
  ct : ∀ σ ps H, ct σ ps → Sat H ps → D'.ct σ H
noncomputable def Ws (t : TS) (nx : PN) (rt : V → List HP → Prop) (bk ct : PN) (σ : L2.St) (ps : List HP) : Prop := ∀ (H : Hp) (D' : Ends), Sat H ps → Le nx rt bk ct D' → t D' σ H
section
variable {te : TE} {tt : TT} {ta : TA} {ts : TS} {σ : L2.St} {ps ps' qs R : List HP} {nx : PN} {rt : V → List HP → Prop} {bk ct : PN}
theorem We.ent {Φ} (e : Ent ps ps') (h : We te σ ps' Φ) : We te σ ps Φ := fun H Q s k => h H Q (e H s) k
theorem Wt.ent {Φ} (e : Ent ps ps') (h : Wt tt σ ps' Φ) : Wt tt σ ps Φ := fun H Q s k => h H Q (e H s) k
theorem Ws.ent (e : Ent ps ps') (h : Ws ts nx rt bk ct σ ps') : Ws ts nx rt bk ct σ ps := fun H Q s k => h H Q (e H s) k
theorem W2.ent {r x y Φ} (e : Ent ps ps') (h : W2 r x y ps' Φ) : W2 r x y ps Φ := fun H Q s k => h H Q (e H s) k
theorem Ws.ex {α : Type} {f : α → HP} (h : ∀ x, Ws ts nx rt bk ct σ (f x :: ps)) : Ws ts nx rt bk ct σ (exh f :: ps) := fun H Q s k => let ⟨x, s'⟩ := Sat.ex.mp s; h x H Q s' k
theorem Ws.pur {φ : Prop} (h : φ → Ws ts nx rt bk ct σ ps) : Ws ts nx rt bk ct σ (Sp.pur φ :: ps) := fun H Q s k => let ⟨x, s'⟩ := Sat.pur.mp s; h x H Q s' k
theorem Ws.grp (h : Ws ts nx rt bk ct σ (qs ++ ps)) : Ws ts nx rt bk ct σ (Sp.grp qs :: ps) := fun H Q s k => h H Q (Sat.grp.mp s) k
theorem Ws.fact {φ : Prop} (f : ∀ H, Sat H ps → φ) (h : φ → Ws ts nx rt bk ct σ ps) : Ws ts nx rt bk ct σ ps := fun H Q s k => h (f H s) H Q s k
theorem We.fact {Φ} {φ : Prop} (f : ∀ H, Sat H ps → φ) (h : φ → We te σ ps Φ) : We te σ ps Φ := fun H Q s k => h (f H s) H Q s k
theorem We.mono {Φ Φ' : V → List HP → Prop} (h : We te σ ps Φ) (k : ∀ v ps, Φ v ps → Φ' v ps) : We te σ ps Φ' := fun H Q s k' => h H Q s fun v ps' H' f s' => k' v ps' H' (k v ps' f) s'
theorem Ws.mono {nx2 : PN} {rt2 : V → List HP → Prop} {bk2 ct2 : PN} (h : Ws ts nx rt bk ct σ ps) (k1 : ∀ σ ps, nx σ ps → nx2 σ ps) (k2 : ∀ v ps, rt v ps → rt2 v ps) (k3 : ∀ σ ps, bk σ ps → bk2 σ ps) (k4 : ∀ σ ps, ct σ ps → ct2 σ ps) : Ws ts nx2 rt2 bk2 ct2 σ ps :=
  fun H D' s l => h H D' s ⟨fun σ ps H x => l.nx σ ps H (k1 σ ps x), fun v ps H x => l.rt v ps H (k2 v ps x), fun σ ps H x => l.bk σ ps H (k3 σ ps x), fun σ ps H x => l.ct σ ps H (k4 σ ps x)⟩
end
structure CI (K : PySem.W.Frag) (names : List Str) where
  C : Addr
  cls : Cls K C
  no : ∀ f ∈ names, NoAttr K C f
  nd : names.Nodup
  few : names.length < 1000
@[irreducible] noncomputable def obj {K : PySem.W.Frag} {names : List Str} (I : CI K names) (a : Addr) (fs : List (Str × V)) : HP := exh fun dx => pt a (.ins I.C dx fs)
theorem lookup_of : ∀ {fs : List (Str × V)} {f : Str} {v : V}, (fs.map (·.1)).Nodup → (f, v) ∈ fs → fs.lookup f = some v
  | [], _, _, _, m => nomatch m
  | (g, x) :: r, f, v, nd, m => by
    have nd' : (g :: r.map (·.1)).Nodup := nd
    obtain ⟨n1, n2⟩ := List.nodup_cons.mp nd'
    rcases List.mem_cons.mp m with e | m2
    · cases e
      rw [List.lookup_cons]
      simp
    · have hne : (f == g) = false := by
        rw [beq_eq_false_iff_ne]
        rintro rfl
        exact n1 (List.mem_map.mpr ⟨(f, v), m2, rfl⟩)
      rw [List.lookup_cons, hne]
      exact lookup_of n2 m2
theorem lookup_not : ∀ {fs : List (Str × V)} {f : Str}, f ∉ fs.map (·.1) → fs.lookup f = none
  | [], _, _ => rfl
  | (g, x) :: r, f, n => by
    have hne : (f == g) = false := by
      rw [beq_eq_false_iff_ne]
      rintro rfl
      exact n (List.mem_map.mpr ⟨(f, x), List.mem_cons_self .., rfl⟩)
    rw [List.lookup_cons, hne]
    exact lookup_not fun m => n (List.mem_cons_of_mem _ m)
inductive FPut (f : Str) (y : V) : List (Str × V) → List (Str × V) → Prop
  | hd {x : V} {r : List (Str × V)} : FPut f y ((f, x) :: r) ((f, y) :: r)
  | tl {g : Str} {x : V} {r r' : List (Str × V)} (h : FPut f y r r') : FPut f y ((g, x) :: r) ((g, x) :: r')
  | new : FPut f y [] [(f, y)]
theorem FPut.eq {f : Str} {y : V} {fs fs' : List (Str × V)} (h : FPut f y fs fs') (nd : (fs'.map (·.1)).Nodup) : putF f y fs = fs' := by
  induction h with
  | hd => unfold putF; rw [if_pos rfl]
  | @tl g x r r' h ih =>
    have nd' : (g :: r'.map (·.1)).Nodup := nd
    obtain ⟨n1, n2⟩ := List.nodup_cons.mp nd'
    have hm : f ∈ r'.map (·.1) := by
      clear ih n1 n2 nd nd'
      induction h with
      | hd => exact List.mem_cons_self ..
      | tl _ ih => exact List.mem_cons_of_mem _ ih
      | new => exact List.mem_cons_self ..
    unfold putF
    rw [if_neg (by rintro rfl; exact n1 hm), ih n2]
  | new => rfl
theorem nodup_pre {a b c : List Str} (e : a ++ b = c) (h : c.Nodup) : a.Nodup := by
  subst e; exact (List.nodup_append.mp h).1
section
variable {K : PySem.W.Frag} {names : List Str} {I : CI K names} {te ta tb tv : TE} {t u : TT} {tr : TA} {σ : L2.St} {ps ps' ps1 R : List HP} {Φ : V → List HP → Prop} {x y v : V} {a : Addr} {fs fs' : List (Str × V)} {f : Str} {nx : PN} {rt : V → List HP → Prop} {bk ct : PN} {ts tz tu : TS}
theorem Sat.obj {H : Hp} (s : Sat H ps) (m : Sp.obj I a fs ∈ ps) : ∃ dx, H a = some (.ins I.C dx fs) := by
  unfold Sat at s
  obtain ⟨L, hO, hL⟩ := s
  obtain ⟨L1, h1, k⟩ := stars_mem m hL
  unfold Sp.obj exh pt at h1
  obtain ⟨dx, rfl⟩ := h1
  exact ⟨dx, hO.2 (a, _) (k _ (List.mem_cons_self ..))⟩
theorem Sat.objRep {H : Hp} (s : Sat H ps) (r : Rep (Sp.obj I a fs) (Sp.obj I a fs') ps ps') : ∃ dx, H a = some (.ins I.C dx fs) ∧ Sat (upd H a (.ins I.C dx fs')) ps' := by
  obtain ⟨R, p, q⟩ := r.two
  have s1 := s.perm p
  unfold Sp.obj at s1
  obtain ⟨dx, s2⟩ := Sat.ex.mp s1
  refine ⟨dx, s2.get (List.mem_cons_self ..), Sat.perm q.symm ?_⟩
  unfold Sp.obj
  exact Sat.ex.mpr ⟨dx, s2.write⟩
theorem we_var {i : Nat} (h : σ[i]? = some (some v)) (k : Φ v ps) : We (tVar i) σ ps Φ := fun H Q s q => ⟨v, h, q _ _ _ k s⟩
theorem we_c (k : Φ v ps) : We (tC v) σ ps Φ := fun H Q s q => q _ _ _ k s
noncomputable def RF (K : PySem.W.Frag) (H : Hp) (a : Addr) (f : Str) (v : V) : Prop := ∃ C dx fs, H a = some (.ins C dx fs) ∧ Cls K C ∧ NoAttr K C f ∧ fs.lookup f = some v
noncomputable def FldG (K : PySem.W.Frag) (x : V) (f : Str) (ps : List HP) (Φ : V → List HP → Prop) : Prop := ∀ H, Sat H ps → ∃ ps2 a v, Sat H ps2 ∧ x = .ref a ∧ RF K H a f v ∧ Φ v ps2
noncomputable def RdF (K : PySem.W.Frag) (ps : List HP) (a : Addr) (f : Str) (v : V) : Prop := ∀ H, Sat H ps → RF K H a f v
theorem fldG_ro (h : RdF K ps a f v) (k : Φ v ps) : FldG K (.ref a) f ps Φ := fun H s => ⟨ps, a, v, s, rfl, h H s, k⟩
theorem FldG.ent (e : Ent ps ps') (h : FldG K x f ps' Φ) : FldG K x f ps Φ := fun H s => h H (e H s)
theorem FldG.open {α : Type} {g : α → List HP} (e : ∀ H, Sat H ps → ∃ z, Sat H (g z)) (h : ∀ z, FldG K x f (g z) Φ) : FldG K x f ps Φ := fun H s => let ⟨z, s'⟩ := e H s; h z H s'
theorem Sat.rf {r : List Str} {H : Hp} (s : Sat H ps) (m : Sp.obj I a fs ∈ ps) (p : fs.map (·.1) ++ r = names) (q : (f, v) ∈ fs) : RF K H a f v := by
  obtain ⟨dx, e⟩ := s.obj m
  exact ⟨I.C, dx, fs, e, I.cls, I.no f (by rw [← p]; exact List.mem_append_left _ (List.mem_map.mpr ⟨_, q, rfl⟩)), lookup_of (nodup_pre p I.nd) q⟩
theorem fldG {r : List Str} (m : obj I a fs ∈ ps) (p : fs.map (·.1) ++ r = names) (q : (f, v) ∈ fs) (k : Φ v ps) : FldG K (.ref a) f ps Φ := fun H s => ⟨ps, a, v, s, rfl, s.rf m p q, k⟩
theorem we_fld (h : We ta σ ps fun x ps1 => FldG K x f ps1 Φ) : We (tFld K ta f) σ ps Φ := by
  intro H Q s q
  refine h H _ s fun x ps1 H1 g s1 => ?_
  obtain ⟨ps2, a, v, s2, rfl, ⟨C, dx, fs, e1, e2, e3, e4⟩, k⟩ := g H1 s1
  exact ⟨a, C, dx, fs, v, rfl, e1, e2, e3, e4, q _ _ _ k s2⟩
noncomputable def FldS0 (K : PySem.W.Frag) (x : V) (f : Str) (y : V) (ps : List HP) (k : List HP → Prop) : Prop := ∃ (names : List Str) (I : CI K names) (a : Addr) (fs fs' : List (Str × V)) (r : List Str) (ps' : List HP), x = .ref a ∧ FPut f y fs fs' ∧ fs'.map (·.1) ++ r = names ∧ Rep (obj I a fs) (obj I a fs') ps ps' ∧ k ps'
noncomputable def FldS (K : PySem.W.Frag) (x : V) (f : Str) (y : V) (ps : List HP) (k : List HP → Prop) : Prop := ∀ H, Sat H ps → ∃ ps2, Sat H ps2 ∧ FldS0 K x f y ps2 k
theorem FldS.ent {k : List HP → Prop} (e : Ent ps ps') (h : FldS K x f y ps' k) : FldS K x f y ps k := fun H s => h H (e H s)
theorem FldS.open {α : Type} {g : α → List HP} {k : List HP → Prop} (e : ∀ H, Sat H ps → ∃ z, Sat H (g z)) (h : ∀ z, FldS K x f y (g z) k) : FldS K x f y ps k := fun H s => let ⟨z, s'⟩ := e H s; h z H s'
theorem fldS {r : List Str} {k : List HP → Prop} {fs' : List (Str × V)} (m : obj I a fs ∈ ps) (w : FPut f y fs fs') (p : fs'.map (·.1) ++ r = names) (h : Rep (obj I a fs) (obj I a fs') ps ps') (q : k ps') : FldS K (.ref a) f y ps k := fun H s => ⟨ps, s, _, I, a, fs, fs', r, ps', rfl, w, p, h, q⟩
theorem FPut.len {f : Str} {y : V} {fs fs' : List (Str × V)} (h : FPut f y fs fs') : fs.length ≤ fs'.length := by
  induction h with
  | hd => simp
  | tl _ ih => simpa using ih
  | new => simp
theorem FPut.mem {f : Str} {y : V} {fs fs' : List (Str × V)} (h : FPut f y fs fs') : f ∈ fs'.map (·.1) := by
  induction h with
  | hd => exact List.mem_cons_self ..
  | tl _ ih => exact List.mem_cons_of_mem _ ih
  | new => exact List.mem_cons_self ..
theorem ws_fld (h : We tv σ ps fun y ps1 => We ta σ ps1 fun x ps2 => FldS K x f y ps2 (nx σ)) : Ws (sFld K ta tv f) nx rt bk ct σ ps := by
  intro H D' s l
  refine h H _ s fun y ps1 H1 h1 s1 => ?_
  refine h1 H1 _ s1 fun x ps2 H2 g s2 => ?_
  obtain ⟨ps2, s2, names, I, a, fs, fs', r, ps', rfl, w, p, rep, k⟩ := g H2 s2
  obtain ⟨dx, e, s3⟩ := s2.objRep rep
  have lt : fs.length < 1000 := by
    have h1 := w.len
    have h2 : fs'.length ≤ names.length := by rw [← p]; simp
    exact Nat.lt_of_le_of_lt (Nat.le_trans h1 h2) I.few
  refine ⟨a, I.C, dx, fs, rfl, e, I.cls, I.no f (by rw [← p]; exact List.mem_append_left _ w.mem), lt, ?_⟩
  rw [w.eq (nodup_pre p I.nd)]
  exact l.nx _ _ _ k s3
theorem we_op {r : R2} (h : We ta σ ps fun x ps1 => We tb σ ps1 fun y ps2 => W2 r x y ps2 Φ) : We (tOp r ta tb) σ ps Φ := fun H Q s q =>
  h H _ s fun x ps1 H1 h1 s1 => h1 H1 _ s1 fun y ps2 H2 h2 s2 => h2 H2 Q s2 q
theorem we_un {r : V → Hp → VK → Prop} (h : We ta σ ps fun x ps1 => W1 r x ps1 Φ) : We (tUn r ta) σ ps Φ := fun H Q s q =>
  h H _ s fun x ps1 H1 h1 s1 => h1 H1 Q s1 q
theorem w2_I0 {g : Int → Int → V} {i j : Int} (k : Φ (g i j) ps) : W2 (rI0 g) (.int i) (.int j) ps Φ := fun H Q s q => ⟨i, j, rfl, rfl, q _ _ _ k s⟩
theorem w2_I {C : Int → Int → Prop} {g : Int → Int → V} {i j : Int} (c : C i j) (k : Φ (g i j) ps) : W2 (rI C g) (.int i) (.int j) ps Φ := fun H Q s q => ⟨i, j, rfl, rfl, c, q _ _ _ k s⟩
theorem w1_U {g : Int → V} {i : Int} (k : Φ (g i) ps) : W1 (rU g) (.int i) ps Φ := fun H Q s q => ⟨i, rfl, q _ _ _ k s⟩
theorem w2_eq (c : scal x y = true) (k : Φ (.bl (decide (x = y))) ps) : W2 rEq x y ps Φ := fun H Q s q => ⟨c, q _ _ _ k s⟩
theorem w2_ne (c : scal x y = true) (k : Φ (.bl (!decide (x = y))) ps) : W2 rNe x y ps Φ := fun H Q s q => ⟨c, q _ _ _ k s⟩
theorem we_eqN (h : We ta σ ps fun x ps1 => Φ (.bl (decide (x = .non))) ps1) : We (tIsN ta) σ ps Φ := fun H Q s q => h H _ s fun x ps1 H1 k s1 => q _ _ _ k s1
theorem we_neN (h : We ta σ ps fun x ps1 => Φ (.bl (!decide (x = .non))) ps1) : We (tNotN ta) σ ps Φ := fun H Q s q => h H _ s fun x ps1 H1 k s1 => q _ _ _ k s1
noncomputable def BoolG (x : V) (ps : List HP) (Φ : Bool → List HP → Prop) : Prop := ∃ c, x = .bl c ∧ Φ c ps
theorem boolG {c : Bool} {Φ : Bool → List HP → Prop} (k : Φ c ps) : BoolG (.bl c) ps Φ := ⟨c, rfl, k⟩
theorem wt_test {Φ : Bool → List HP → Prop} (h : We te σ ps fun x ps1 => BoolG x ps1 Φ) : Wt (tTest te) σ ps Φ := fun H Q s q =>
  h H _ s fun x ps1 H1 ⟨c, e, k⟩ s1 => ⟨c, e, q _ _ _ k s1⟩
theorem wt_B {Φ : Bool → List HP → Prop} (h : We te σ ps fun x ps1 => BoolG x ps1 Φ) : Wt (tB te) σ ps Φ := fun H Q s q =>
  h H _ s fun x ps1 H1 ⟨c, e, k⟩ s1 => ⟨c, e, q _ _ _ k s1⟩
theorem wt_not {Φ : Bool → List HP → Prop} (h : Wt t σ ps fun c ps1 => Φ (!c) ps1) : Wt (tNot t) σ ps Φ := fun H Q s q => h H _ s fun c ps1 H1 k s1 => q _ _ _ k s1
theorem wt_and {Φ : Bool → List HP → Prop} (h : Wt t σ ps fun c ps1 => if c = true then Wt u σ ps1 Φ else Φ false ps1) : Wt (tAnd t u) σ ps Φ := fun H Q s q =>
  h H _ s fun c ps1 H1 k s1 => by
    cases c with
    | true => rw [if_pos rfl] at k ⊢; exact k H1 Q s1 q
    | false => rw [if_neg Bool.false_ne_true] at k ⊢; exact q _ _ _ k s1
theorem wt_or {Φ : Bool → List HP → Prop} (h : Wt t σ ps fun c ps1 => if c = true then Φ true ps1 else Wt u σ ps1 Φ) : Wt (tOr t u) σ ps Φ := fun H Q s q =>
  h H _ s fun c ps1 H1 k s1 => by
    cases c with
    | true => rw [if_pos rfl] at k ⊢; exact q _ _ _ k s1
    | false => rw [if_neg Bool.false_ne_true] at k ⊢; exact k H1 Q s1 q
noncomputable def ChainG (r' : R2) (y : V) (σ : L2.St) (tc : TE) (z : V) (ps : List HP) (Φ : V → List HP → Prop) : Prop := ∃ k, z = .bl k ∧ if k = true then We tc σ ps fun w ps1 => W2 r' y w ps1 Φ else Φ (.bl false) ps
theorem chainG {r' : R2} {tc : TE} {c : Bool} (k : if c = true then We tc σ ps fun w ps1 => W2 r' y w ps1 Φ else Φ (.bl false) ps) : ChainG r' y σ tc (.bl c) ps Φ := ⟨c, rfl, k⟩
theorem we_chain {r r' : R2} {tc : TE} (h : We ta σ ps fun x ps1 => We tb σ ps1 fun y ps2 => W2 r x y ps2 fun z ps3 => ChainG r' y σ tc z ps3 Φ) : We (tChain r r' ta tb tc) σ ps Φ := fun H Q s q =>
  h H _ s fun x ps1 H1 h1 s1 => h1 H1 _ s1 fun y ps2 H2 h2 s2 => h2 H2 _ s2 fun z ps3 H3 ⟨k, e, g⟩ s3 => ⟨k, e, by
    cases k with
    | true => rw [if_pos rfl] at g ⊢; exact g H3 _ s3 fun w ps4 H4 h4 s4 => h4 H4 Q s4 q
    | false => rw [if_neg Bool.false_ne_true] at g ⊢; exact q _ _ _ g s3⟩
noncomputable def AndG (x : V) (tb : TE) (σ : L2.St) (ps : List HP) (Φ : V → List HP → Prop) : Prop := ∃ c, x = .bl c ∧ if c = true then We tb σ ps Φ else Φ (.bl false) ps
noncomputable def OrG (x : V) (tb : TE) (σ : L2.St) (ps : List HP) (Φ : V → List HP → Prop) : Prop := ∃ c, x = .bl c ∧ if c = true then Φ (.bl true) ps else We tb σ ps Φ
theorem andG {c : Bool} (k : if c = true then We tb σ ps Φ else Φ (.bl false) ps) : AndG (.bl c) tb σ ps Φ := ⟨c, rfl, k⟩
theorem orG {c : Bool} (k : if c = true then Φ (.bl true) ps else We tb σ ps Φ) : OrG (.bl c) tb σ ps Φ := ⟨c, rfl, k⟩
theorem we_andV (h : We ta σ ps fun x ps1 => AndG x tb σ ps1 Φ) : We (tAndV ta tb) σ ps Φ := fun H Q s q =>
  h H _ s fun x ps1 H1 ⟨c, e, k⟩ s1 => ⟨c, e, by
    cases c with
    | true => rw [if_pos rfl] at k ⊢; exact k H1 Q s1 q
    | false => rw [if_neg Bool.false_ne_true] at k ⊢; exact q _ _ _ k s1⟩
theorem we_orV (h : We ta σ ps fun x ps1 => OrG x tb σ ps1 Φ) : We (tOrV ta tb) σ ps Φ := fun H Q s q =>
  h H _ s fun x ps1 H1 ⟨c, e, k⟩ s1 => ⟨c, e, by
    cases c with
    | true => rw [if_pos rfl] at k ⊢; exact q _ _ _ k s1
    | false => rw [if_neg Bool.false_ne_true] at k ⊢; exact k H1 Q s1 q⟩
theorem we_notV (h : We ta σ ps fun x ps1 => BoolG x ps1 fun c ps2 => Φ (.bl (!c)) ps2) : We (tNotV ta) σ ps Φ := fun H Q s q =>
  h H _ s fun x ps1 H1 ⟨c, e, k⟩ s1 => ⟨c, e, q _ _ _ k s1⟩
theorem ws_next (k : nx σ ps) : Ws tNext nx rt bk ct σ ps := fun H D' s l => l.nx _ _ _ k s
theorem ws_seq (h : Ws ts (fun σ' ps' => Ws tz nx rt bk ct σ' ps') rt bk ct σ ps) : Ws (tSeq ts tz) nx rt bk ct σ ps := fun H D' s l =>
  h H _ s ⟨fun σ' ps' H' k s' => k H' D' s' l, l.rt, l.bk, l.ct⟩
theorem ws_break (k : bk σ ps) : Ws tBreak nx rt bk ct σ ps := fun H D' s l => l.bk _ _ _ k s
theorem ws_cont (k : ct σ ps) : Ws tCont nx rt bk ct σ ps := fun H D' s l => l.ct _ _ _ k s
theorem ws_drop (h : We te σ ps fun _ ps1 => nx σ ps1) : Ws (tDrop te) nx rt bk ct σ ps := fun H D' s l => h H _ s fun v ps1 H1 k s1 => l.nx _ _ _ k s1
theorem ws_ret (h : We te σ ps rt) : Ws (tRet te) nx rt bk ct σ ps := fun H D' s l => h H _ s fun v ps1 H1 k s1 => l.rt _ _ _ k s1
theorem ws_retN (k : rt .non ps) : Ws tRetN nx rt bk ct σ ps := fun H D' s l => l.rt _ _ _ k s
theorem ws_if (h : Wt t σ ps fun c ps1 => if c = true then Ws ts nx rt bk ct σ ps1 else Ws tu nx rt bk ct σ ps1) : Ws (tIfS t ts tu) nx rt bk ct σ ps := fun H D' s l =>
  h H _ s fun c ps1 H1 k s1 => by
    cases c with
    | true => rw [if_pos rfl] at k ⊢; exact k H1 D' s1 l
    | false => rw [if_neg Bool.false_ne_true] at k ⊢; exact k H1 D' s1 l
theorem ws_asg {g : TG} (h : We te σ ps fun x ps1 => Wg g x σ ps1 nx) : Ws (tAsg te g) nx rt bk ct σ ps := fun H D' s l =>
  h H _ s fun x ps1 H1 k s1 => k H1 _ s1 fun σ' ps' H' k' s' => l.nx _ _ _ k' s'
theorem wg_name {i : Nat} {Φ : L2.St → List HP → Prop} (k : Φ (σ.set i (some v)) ps) : Wg (gName i) v σ ps Φ := fun H Q s q => q _ _ _ k s
theorem wg_sub {to ti : TE} {w : TSet} {Φ : L2.St → List HP → Prop} (h : We to σ ps fun o ps1 => We ti σ ps1 fun i ps2 => Wst w o i v ps2 fun ps3 => Φ σ ps3) : Wg (gSub to ti w) v σ ps Φ := fun H Q s q =>
  h H _ s fun o ps1 H1 h1 s1 => h1 H1 _ s1 fun i ps2 H2 h2 s2 => h2 H2 _ s2 fun ps3 H3 k s3 => q _ _ _ k s3
theorem wgs_nil {Φ : L2.St → List HP → Prop} (k : Φ σ ps) : Wgs gNil [] σ ps Φ := fun H Q s q => ⟨rfl, q _ _ _ k s⟩
theorem wgs_cons {g : TG} {gs : TGs} {vs : List V} {Φ : L2.St → List HP → Prop} (h : Wg g v σ ps fun σ1 ps1 => Wgs gs vs σ1 ps1 Φ) : Wgs (gCons g gs) (v :: vs) σ ps Φ := fun H Q s q =>
  ⟨v, vs, rfl, h H _ s fun σ1 ps1 H1 h1 s1 => h1 H1 Q s1 q⟩
theorem wa_nil {Φ : List V → List HP → Prop} (k : Φ [] ps) : Wa tNil σ ps Φ := fun H Q s q => q _ _ _ k s
theorem wa_cons {Φ : List V → List HP → Prop} (h : We ta σ ps fun x ps1 => Wa tr σ ps1 fun xs ps2 => Φ (x :: xs) ps2) : Wa (tCons ta tr) σ ps Φ := fun H Q s q =>
  h H _ s fun x ps1 H1 h1 s1 => h1 H1 _ s1 fun xs ps2 H2 k s2 => q _ _ _ k s2
noncomputable def NewG (n : Nat) (k : Addr → Prop) : Prop := n ≤ sizeLine ∧ ∀ p, k p
theorem newG {n : Nat} {k : Addr → Prop} (l : n ≤ sizeLine) (h : ∀ p, k p) : NewG n k := ⟨l, h⟩
theorem we_tup (h : Wa tr σ ps fun xs ps1 => NewG xs.length fun p => Φ (.ref p) (pt p (.tup xs) :: ps1)) : We (tTup tr) σ ps Φ := fun H Q s q =>
  h H _ s fun xs ps1 H1 ⟨l, k⟩ s1 => ⟨l, fun p hp => q _ _ _ (k p) (s1.new hp)⟩
theorem we_lst (h : Wa tr σ ps fun xs ps1 => NewG xs.length fun p => Φ (.ref p) (pt p (.lst xs) :: ps1)) : We (tLst tr) σ ps Φ := fun H Q s q =>
  h H _ s fun xs ps1 H1 ⟨l, k⟩ s1 => ⟨l, fun p hp => q _ _ _ (k p) (s1.new hp)⟩
theorem we_dnewK (k : ∀ p, Φ (.ref p) (pt p (.dK []) :: ps)) : We tDNewK σ ps Φ := fun H Q s q p hp => q _ _ _ (k p) (s.new hp)
theorem we_dnewT (k : ∀ p, Φ (.ref p) (pt p (.dT []) :: ps)) : We tDNewT σ ps Φ := fun H Q s q p hp => q _ _ _ (k p) (s.new hp)
theorem we_CB {r : List V → Hp → VK → Prop} (h : Wa tr σ ps fun vs ps1 => Wc r vs ps1 Φ) : We (tCB r tr) σ ps Φ := fun H Q s q =>
  h H _ s fun vs ps1 H1 h1 s1 => h1 H1 Q s1 q
end
end Sp
set_option Elab.async false
set_option linter.all false
set_option maxRecDepth 100000
set_option maxHeartbeats 4000000
namespace Sp
open PySem PySem.Spec PyProof.Rows L2
@[irreducible] noncomputable def RdL (K : PySem.W.Frag) (ps : List HP) (a : Addr) (xs : List V) : Prop := ∀ H, Sat H ps → SqL K H a xs
@[irreducible] noncomputable def RdT (K : PySem.W.Frag) (ps : List HP) (a : Addr) (xs : List V) : Prop := ∀ H, Sat H ps → SqT K H a xs
section
variable {K : PySem.W.Frag} {ps ps' qs R : List HP} {a b : Addr} {xs ys : List V}
theorem rdl_pt (m : pt a (.lst xs) ∈ ps) : RdL K ps a xs := by unfold RdL; exact fun H s => SqL.of (s.get m)
theorem rdt_pt (m : pt a (.tup xs) ∈ ps) : RdT K ps a xs := by unfold RdT; exact fun H s => SqT.of (s.get m)
theorem rdt_of (h : ∀ H, SqT K H a xs) : RdT K ps a xs := by unfold RdT; exact fun H _ => h H
theorem RdL.ent (e : Ent ps ps') (h : RdL K ps' a xs) : RdL K ps a xs := by unfold RdL at *; exact fun H s => h H (e H s)
theorem RdT.ent (e : Ent ps ps') (h : RdT K ps' a xs) : RdT K ps a xs := by unfold RdT at *; exact fun H s => h H (e H s)
theorem RdL.at' (h : RdL K ps a xs) {H : Hp} (s : Sat H ps) : SqL K H a xs := by unfold RdL at h; exact h H s
theorem RdT.at' (h : RdT K ps a xs) {H : Hp} (s : Sat H ps) : SqT K H a xs := by unfold RdT at h; exact h H s
end
section
variable {K : PySem.W.Frag} {te ta tb tv td ti : TE} {t u : TT} {tr : TA} {σ : L2.St} {ps ps' ps1 R : List HP} {Φ : V → List HP → Prop} {x y v : V} {a b p : Addr} {xs ys : List V} {nx : PN} {rt : V → List HP → Prop} {bk ct : PN} {ts tz tu : TS} {i j : Int}
noncomputable def rLen (K : PySem.W.Frag) : List V → Hp → VK → Prop := fun xs H Q => ∃ p ys, xs = [.ref p] ∧ (SqL K H p ys ∨ SqT K H p ys) ∧ Q (.int ys.length) H
theorem cr_len {X : Cx} : CallR X (.builtin "len") (rLen X.K) := call_len_seq
theorem wc_lenL (h : RdL K ps a xs) (k : Φ (.int xs.length) ps) : Wc (rLen K) [.ref a] ps Φ := fun H Q s q => ⟨a, xs, rfl, .inl (h.at' s), q _ _ _ k s⟩
theorem wc_lenT (h : RdT K ps a xs) (k : Φ (.int xs.length) ps) : Wc (rLen K) [.ref a] ps Φ := fun H Q s q => ⟨a, xs, rfl, .inr (h.at' s), q _ _ _ k s⟩
noncomputable def rAbs : List V → Hp → VK → Prop := fun xs H Q => ∃ i, xs = [.int i] ∧ Q (.int (if i < 0 then -i else i)) H
theorem cr_abs {X : Cx} : CallR X (.builtin "abs") rAbs := call_abs
theorem wc_abs (k : Φ (.int (i.natAbs : Int)) ps) : Wc rAbs [.int i] ps Φ := fun H Q s q => ⟨i, rfl, by
  have e : (if i < 0 then -i else i) = (i.natAbs : Int) := by split <;> omega
  rw [e]; exact q _ _ _ k s⟩
noncomputable def rMax2 : List V → Hp → VK → Prop := fun xs H Q => ∃ i j, xs = [.int i, .int j] ∧ Q (.int (if j > i then j else i)) H
noncomputable def rMin2 : List V → Hp → VK → Prop := fun xs H Q => ∃ i j, xs = [.int i, .int j] ∧ Q (.int (if j < i then j else i)) H
theorem cr_max2 {X : Cx} (hc : X.calm = true) : CallR X (.builtin "max") rMax2 := call_max2 hc
theorem wc_max2 (k : Φ (.int (max i j)) ps) : Wc rMax2 [.int i, .int j] ps Φ := fun H Q s q => ⟨i, j, rfl, by
  have e : (if j > i then j else i) = max i j := by split <;> omega
  rw [e]; exact q _ _ _ k s⟩
theorem wc_min2 (k : Φ (.int (min i j)) ps) : Wc rMin2 [.int i, .int j] ps Φ := fun H Q s q => ⟨i, j, rfl, by
  have e : (if j < i then j else i) = min i j := by split <;> omega
  rw [e]; exact q _ _ _ k s⟩
noncomputable def rInt1 : List V → Hp → VK → Prop := fun xs H Q => (∃ i, xs = [.int i] ∧ Q (.int i) H) ∨ ∃ k, xs = [.bl k] ∧ Q (.int (if k then 1 else 0)) H
theorem cr_int1 {X : Cx} : CallR X (.type "int") rInt1 := call_int1
theorem wc_int (k : Φ (.int i) ps) : Wc rInt1 [.int i] ps Φ := fun H Q s q => .inl ⟨i, rfl, q _ _ _ k s⟩
theorem wc_intB {c : Bool} (k : Φ (.int (if c then 1 else 0)) ps) : Wc rInt1 [.bl c] ps Φ := fun H Q s q => .inr ⟨c, rfl, q _ _ _ k s⟩
theorem wc_sum {ns : List Int} (h : RdL K ps a (ns.map V.int)) (k : Φ (.int ns.sum) ps) : Wc (rSum K) [.ref a] ps Φ := fun H Q s q => ⟨a, ns, rfl, h.at' s, q _ _ _ k s⟩
theorem wc_max {ns : List Int} (h : RdL K ps a (ns.map V.int)) (l : 0 < ns.length) (k : ∀ m, m ∈ ns → (∀ y, y ∈ ns → y ≤ m) → Φ (.int m) ps) : Wc (rMax K) [.ref a] ps Φ := fun H Q s q => ⟨a, ns, rfl, h.at' s, l, fun m h1 h2 => q _ _ _ (k m h1 h2) s⟩
theorem wc_sorted {ns : List Int} (h : RdL K ps a (ns.map V.int)) (k : ∀ (ns' : List Int) (p : Addr), ns'.Perm ns → ns'.Pairwise (· ≤ ·) → Φ (.ref p) (pt p (.lst (ns'.map V.int)) :: ps)) : Wc (rSortedI K) [.ref a] ps Φ := fun H Q s q =>
  ⟨a, ns, rfl, h.at' s, fun ns' p h1 h2 hp => q _ _ _ (k ns' p h1 h2) (s.new hp)⟩
noncomputable def rListOf (K : PySem.W.Frag) : List V → Hp → VK → Prop := fun xs H Q => ∃ p ys, xs = [.ref p] ∧ (SqL K H p ys ∨ SqT K H p ys) ∧ ∀ l, H l = none → Q (.ref l) (upd H l (.lst ys))
theorem cr_listOf {X : Cx} : CallR X (.type "list") (rListOf X.K) := call_list_of
theorem wc_listL (h : RdL K ps a xs) (k : ∀ p, Φ (.ref p) (pt p (.lst xs) :: ps)) : Wc (rListOf K) [.ref a] ps Φ := fun H Q s q => ⟨a, xs, rfl, .inl (h.at' s), fun l hl => q _ _ _ (k l) (s.new hl)⟩
noncomputable def rTupOf (K : PySem.W.Frag) : List V → Hp → VK → Prop := fun xs H Q => ∃ p ys, xs = [.ref p] ∧ ((SqL K H p ys ∧ ∀ l, H l = none → Q (.ref l) (upd H l (.tup ys))) ∨ (SqT K H p ys ∧ Q (.ref p) H))
theorem cr_tupOf {X : Cx} : CallR X (.type "tuple") (rTupOf X.K) := call_tuple_of
theorem wc_tupL (h : RdL K ps a xs) (k : ∀ p, Φ (.ref p) (pt p (.tup xs) :: ps)) : Wc (rTupOf K) [.ref a] ps Φ := fun H Q s q => ⟨a, xs, rfl, .inl ⟨h.at' s, fun l hl => q _ _ _ (k l) (s.new hl)⟩⟩
theorem w2_ixL (h : RdL K ps a xs) (g : atI xs i = some v) (k : Φ v ps) : W2 (rIxL K) (.ref a) (.int i) ps Φ := fun H Q s q => ⟨a, xs, i, v, rfl, rfl, h.at' s, g, q _ _ _ k s⟩
theorem w2_ixT (h : RdT K ps a xs) (g : atI xs i = some v) (k : Φ v ps) : W2 (rIxT K) (.ref a) (.int i) ps Φ := fun H Q s q => ⟨a, xs, i, v, rfl, rfl, h.at' s, g, q _ _ _ k s⟩
theorem we_sl {r : V → Option Int → Option Int → Hp → VK → Prop} {tl th : TO} (h : We te σ ps fun x ps1 => Wo tl σ ps1 fun l ps2 => Wo th σ ps2 fun u ps3 => Wsl r x l u ps3 Φ) : We (tSl r te tl th) σ ps Φ := fun H Q s q =>
  h H _ s fun x ps1 H1 h1 s1 => h1 H1 _ s1 fun l ps2 H2 h2 s2 => h2 H2 _ s2 fun u ps3 H3 h3 s3 => h3 H3 Q s3 q
theorem wo_none {Φ : Option Int → List HP → Prop} (k : Φ none ps) : Wo tNoPart σ ps Φ := fun H Q s q => q _ _ _ k s
noncomputable def IntG (x : V) (ps : List HP) (Φ : Option Int → List HP → Prop) : Prop := ∃ i, x = .int i ∧ Φ (some i) ps
theorem intG {Φ : Option Int → List HP → Prop} (k : Φ (some i) ps) : IntG (.int i) ps Φ := ⟨i, rfl, k⟩
theorem wo_some {Φ : Option Int → List HP → Prop} (h : We te σ ps fun x ps1 => IntG x ps1 Φ) : Wo (tPart te) σ ps Φ := fun H Q s q => h H _ s fun x ps1 H1 ⟨i, e, k⟩ s1 => ⟨i, e, q _ _ _ k s1⟩
theorem wsl_L {lo hi : Option Int} (h : RdL K ps a xs) (k : ∀ p, Φ (.ref p) (pt p (.lst (cutV xs lo hi)) :: ps)) : Wsl (rSlL K) (.ref a) lo hi ps Φ := fun H Q s q => ⟨a, xs, rfl, h.at' s, fun p hp => q _ _ _ (k p) (s.new hp)⟩
theorem w2_cat (m1 : pt a (.lst xs) ∈ ps) (m2 : pt b (.lst ys) ∈ ps) (l : xs.length + ys.length ≤ sizeLine) (k : ∀ p, Φ (.ref p) (pt p (.lst (xs ++ ys)) :: ps)) : W2 rCat (.ref a) (.ref b) ps Φ := fun H Q s q =>
  ⟨a, b, xs, ys, rfl, rfl, s.get m1, s.get m2, l, fun p hp => q _ _ _ (k p) (s.new hp)⟩
theorem w2_rep (m : pt a (.lst xs) ∈ ps) (h1 : -(2 ^ 63) ≤ i) (h2 : i < 2 ^ 63) (l : xs.length * i.toNat ≤ sizeLine) (k : ∀ p, Φ (.ref p) (pt p (.lst (List.replicate i.toNat xs).flatten) :: ps)) : W2 rRep (.ref a) (.int i) ps Φ := fun H Q s q =>
  ⟨a, i, xs, rfl, rfl, s.get m, h1, h2, l, fun p hp => q _ _ _ (k p) (s.new hp)⟩
theorem w2_inL (h : RdL K ps a xs) (f : flatV x = true) (g : xs.all flatV = true) (k : Φ (.bl (inV x xs)) ps) : W2 (rIn K false) x (.ref a) ps Φ := fun H Q s q => ⟨a, xs, rfl, .inl (h.at' s), f, g, q _ _ _ k s⟩
theorem w2_inT (h : RdT K ps a xs) (f : flatV x = true) (g : xs.all flatV = true) (k : Φ (.bl (inV x xs)) ps) : W2 (rIn K false) x (.ref a) ps Φ := fun H Q s q => ⟨a, xs, rfl, .inr (h.at' s), f, g, q _ _ _ k s⟩
theorem w2_ninL (h : RdL K ps a xs) (f : flatV x = true) (g : xs.all flatV = true) (k : Φ (.bl (!inV x xs)) ps) : W2 (rIn K true) x (.ref a) ps Φ := fun H Q s q => ⟨a, xs, rfl, .inl (h.at' s), f, g, q _ _ _ k s⟩
theorem w2_ninT (h : RdT K ps a xs) (f : flatV x = true) (g : xs.all flatV = true) (k : Φ (.bl (!inV x xs)) ps) : W2 (rIn K true) x (.ref a) ps Φ := fun H Q s q => ⟨a, xs, rfl, .inr (h.at' s), f, g, q _ _ _ k s⟩
@[irreducible] noncomputable def RdD (K : PySem.W.Frag) (ps : List HP) (x : V) (d : PyData) : Prop := (∀ H, Sat H ps → Dp K H x d) ∧ SeqAt.shaped d = true
theorem rdd_int : RdD K ps (.int i) (.int i) := by unfold RdD; exact ⟨fun _ _ => .int i, rfl⟩
theorem rdd_non : RdD K ps .non .none := by unfold RdD; exact ⟨fun _ _ => .non, rfl⟩
theorem rdd_bl {c : Bool} : RdD K ps (.bl c) (.bool c) := by unfold RdD; exact ⟨fun _ _ => .bl c, rfl⟩
theorem w2_eqD {d e : PyData} (h1 : RdD K ps x d) (h2 : RdD K ps y e) (k : Φ (.bl (PyData.eqv d e)) ps) : W2 (rEqD K) x y ps Φ := by
  unfold RdD at h1 h2
  exact fun H Q s q => ⟨d, e, h1.1 H s, h2.1 H s, h1.2, h2.2, q _ _ _ k s⟩
theorem w2_neD {d e : PyData} (h1 : RdD K ps x d) (h2 : RdD K ps y e) (k : Φ (.bl (!PyData.eqv d e)) ps) : W2 (rNeD K) x y ps Φ := by
  unfold RdD at h1 h2
  exact fun H Q s q => ⟨d, e, h1.1 H s, h2.1 H s, h1.2, h2.2, q _ _ _ k s⟩
noncomputable def TyG (K : PySem.W.Frag) (T : String) (x : V) (ps : List HP) (k : List HP → Prop) : Prop := (∀ H, Sat H ps → tyV K T x H) ∧ k ps
theorem we_BM {T : String} {r : V → List V → Hp → VK → Prop} (h : We te σ ps fun x ps1 => TyG K T x ps1 fun ps1 => Wa tr σ ps1 fun vs ps2 => Wm r x vs ps2 Φ) : We (tBM K T r te tr) σ ps Φ := fun H Q s q =>
  h H _ s fun x ps1 H1 ⟨ty, h1⟩ s1 => ⟨ty H1 s1, h1 H1 _ s1 fun vs ps2 H2 h2 s2 => h2 H2 Q s2 q⟩
theorem we_BM0 {T : String} {r : V → List V → Hp → VK → Prop} (h : We te σ ps fun x ps1 => TyG K T x ps1 fun ps1 => Wm r x [] ps1 Φ) : We (tBM0 K T r te) σ ps Φ := fun H Q s q =>
  h H _ s fun x ps1 H1 ⟨ty, h1⟩ s1 => ⟨ty H1 s1, h1 H1 Q s1 q⟩
theorem tyL {k : List HP → Prop} (h : RdL K ps a xs) (q : k ps) : TyG K "list" (.ref a) ps k := ⟨fun H s => .inl ⟨rfl, xs, h.at' s⟩, q⟩
theorem wm_append (m : Rep (pt a (.lst xs)) (pt a (.lst (xs ++ [y]))) ps ps') (l : xs.length < sizeLine) (k : Φ .non ps') : Wm rAppend (.ref a) [y] ps Φ := fun H Q s q =>
  ⟨a, xs, y, rfl, rfl, s.get m.mem, l, q _ _ _ k (s.rep m)⟩
theorem wm_popAt {n : Nat} (m : Rep (pt a (.lst xs)) (pt a (.lst (xs.eraseIdx n))) ps ps') (g : xs[n]? = some y) (e : i = (n : Int)) (hn : n < 2 ^ 62) (k : Φ y ps') : Wm rPopAt (.ref a) [.int i] ps Φ := fun H Q s q => by
  subst e
  have hl : n < xs.length := (List.getElem?_eq_some_iff.mp g).1
  refine ⟨a, xs, (n : Int), n, y, rfl, rfl, s.get m.mem, by omega, by omega, ?_, g, q _ _ _ k (s.rep m)⟩
  have h1 : ixN xs.length (n : Int) = some n := by
    unfold ixN
    rw [if_pos (by omega), if_pos (by omega)]
    simp
  exact (ixN_seq h1).1
theorem wst_L {n : Nat} {Ψ : List HP → Prop} (m : Rep (pt a (.lst xs)) (pt a (.lst (xs.set n y))) ps ps') (e : i = (n : Int)) (l : n < xs.length) (k : Ψ ps') : Wst rSetL (.ref a) (.int i) y ps Ψ := fun H Q s q => by
  subst e
  refine ⟨a, xs, (n : Int), n, rfl, rfl, s.get m.mem, ?_, q _ _ k (s.rep m)⟩
  unfold ixN
  rw [if_pos (by omega), if_pos (by omega)]
  simp
noncomputable def DGetP (ps : List HP) (a : Addr) (y : V) (o : Option V) : Prop := ∀ H, Sat H ps → DGet H a y o
theorem dgetK {kvs : List (Key × V)} {q : Key} (m : pt a (.dK kvs) ∈ ps) (e : y = kV q) : DGetP ps a y (valV kvs q) := fun H s => by subst e; exact DGet.k (s.get m)
theorem dgetT {kvs : List (List Key × V)} {q : List Key} (m : pt a (.dT kvs) ∈ ps) (n : pt b (.tup (q.map kV)) ∈ ps) : DGetP ps a (.ref b) (valV kvs q) := fun H s => DGet.t (s.get m) (s.get n)
noncomputable def DGetG (x y : V) (ps : List HP) (Φ : V → List HP → Prop) : Prop := ∃ a v, x = .ref a ∧ DGetP ps a y (some v) ∧ Φ v ps
theorem we_dget (h : We td σ ps fun x ps1 => We ti σ ps1 fun y ps2 => DGetG x y ps2 Φ) : We (tDGet td ti) σ ps Φ := fun H Q s q =>
  h H _ s fun x ps1 H1 h1 s1 => h1 H1 _ s1 fun y ps2 H2 ⟨a, v, e, g, k⟩ s2 => ⟨a, v, e, g H2 s2, q _ _ _ k s2⟩
noncomputable def DInG (x y : V) (ps : List HP) (Φ : Bool → List HP → Prop) : Prop := ∃ a o, x = .ref a ∧ DGetP ps a y o ∧ Φ o.isSome ps
theorem we_din (h : We ti σ ps fun y ps1 => We td σ ps1 fun x ps2 => DInG x y ps2 fun c ps3 => Φ (.bl c) ps3) : We (tDIn ti td) σ ps Φ := fun H Q s q =>
  h H _ s fun y ps1 H1 h1 s1 => h1 H1 _ s1 fun x ps2 H2 ⟨a, o, e, g, k⟩ s2 => ⟨a, o, e, g H2 s2, q _ _ _ k s2⟩
theorem we_dnotin (h : We ti σ ps fun y ps1 => We td σ ps1 fun x ps2 => DInG x y ps2 fun c ps3 => Φ (.bl (!c)) ps3) : We (tDNotIn ti td) σ ps Φ := fun H Q s q =>
  h H _ s fun y ps1 H1 h1 s1 => h1 H1 _ s1 fun x ps2 H2 ⟨a, o, e, g, k⟩ s2 => ⟨a, o, e, g H2 s2, q _ _ _ k s2⟩
noncomputable def DPutG (x y v : V) (ps : List HP) (k : List HP → Prop) : Prop := ∃ a ps', x = .ref a ∧ (∀ H, Sat H ps → ∃ H', DPut H a y v H' ∧ Sat H' ps') ∧ k ps'
theorem ws_dput (h : We tv σ ps fun v ps1 => We td σ ps1 fun x ps2 => We ti σ ps2 fun y ps3 => DPutG x y v ps3 (nx σ)) : Ws (sDPut td ti tv) nx rt bk ct σ ps := fun H D' s l =>
  h H _ s fun v ps1 H1 h1 s1 => h1 H1 _ s1 fun x ps2 H2 h2 s2 => h2 H2 _ s2 fun y ps3 H3 ⟨a, ps', e, g, k⟩ s3 => let ⟨H4, g1, g2⟩ := g H3 s3; ⟨a, H4, e, g1, l.nx _ _ _ k g2⟩
theorem dputK {kvs : List (Key × V)} {q : Key} {k : List HP → Prop} (e : y = kV q) (m : Rep (pt a (.dK kvs)) (pt a (.dK (putK kvs q v))) ps ps') (l : kvs.length < sizeLine) (h : k ps') : DPutG (.ref a) y v ps k := by
  subst e
  exact ⟨a, ps', rfl, fun H s => ⟨_, DPut.k (s.get m.mem) l, s.rep m⟩, h⟩
theorem dputT {kvs : List (List Key × V)} {q : List Key} {k : List HP → Prop} (n : pt b (.tup (q.map kV)) ∈ ps) (m : Rep (pt a (.dT kvs)) (pt a (.dT (putK kvs q v))) ps ps') (l : kvs.length < sizeLine) (h : k ps') : DPutG (.ref a) (.ref b) v ps k :=
  ⟨a, ps', rfl, fun H s => ⟨_, DPut.t (s.get m.mem) (s.get n) l, s.rep m⟩, h⟩
noncomputable def Wp : List (TE × TE) → L2.St → List HP → (List (V × V) → List HP → Prop) → Prop
  | [], _, ps, Φ => Φ [] ps
  | (tk, tv) :: r, σ, ps, Φ => We tk σ ps fun x ps1 => We tv σ ps1 fun y ps2 => Wp r σ ps2 fun l ps3 => Φ ((x, y) :: l) ps3
theorem wp_run : ∀ {trs : List (TE × TE)} {σ : L2.St} {ps : List HP} {Φ : List (V × V) → List HP → Prop}, Wp trs σ ps Φ → ∀ (H : Hp) (Q : List (V × V) → Hp → Prop), Sat H ps → (∀ v ps' H', Φ v ps' → Sat H' ps' → Q v H') → tPairs trs σ H Q
  | [], _, _, _, h, H, Q, s, q => q _ _ _ h s
  | (tk, tv) :: r, σ, ps, Φ, h, H, Q, s, q => h H _ s fun x ps1 H1 h1 s1 => h1 H1 _ s1 fun y ps2 H2 h2 s2 => wp_run h2 H2 _ s2 fun l ps3 H3 k s3 => q _ _ _ k s3
theorem wg_tup {n : Nat} {gs : TGs} {Φ : L2.St → List HP → Prop} (h : RdT K ps a xs) (l : xs.length = n) (k : Wgs gs xs σ ps Φ) : Wg (gTup K n gs) (.ref a) σ ps Φ := fun H Q s q => ⟨a, xs, rfl, h.at' s, l, k H Q s q⟩
structure Src where
  n : Nat
  rd : List HP → Prop
  item : Nat → V → List HP → Prop
structure SrcOk (S : Src) (J : It) : Prop where
  go : ∀ i ps H, S.rd ps → Sat H ps → i < S.n → J.go i H ∧ ∀ x H', J.yld i H x H' → ∃ ex, S.item i x ex ∧ Sat H' (ex ++ ps)
  stop : ∀ ps H, S.rd ps → Sat H ps → J.stop S.n H
noncomputable def Wi (wi : TI) (σ : L2.St) (ps : List HP) (Φ : Src → List HP → Prop) : Prop := ∀ (H : Hp) (R : It → Hp → Prop), Sat H ps → (∀ S J ps' H', SrcOk S J → Φ S ps' → Sat H' ps' → R J H') → wi σ H R
noncomputable def srcL (K : PySem.W.Frag) (a : Addr) (xs : List V) : Src := ⟨xs.length, fun ps => RdL K ps a xs, fun i x ex => xs[i]? = some x ∧ ex = []⟩
noncomputable def srcR (lo : Int) (n : Nat) : Src := ⟨n, fun _ => True, fun i x ex => x = .int (lo + (i : Nat)) ∧ ex = []⟩
noncomputable def srcV (K : PySem.W.Frag) (a : Addr) (xs : List V) : Src := ⟨xs.length, fun ps => RdL K ps a xs, fun i x ex => xs[xs.length - 1 - i]? = some x ∧ ex = []⟩
noncomputable def srcE (K : PySem.W.Frag) (a : Addr) (xs : List V) : Src := ⟨xs.length, fun ps => RdL K ps a xs, fun i x ex => ∃ p y, xs[i]? = some y ∧ x = .ref p ∧ ex = [pt p (.tup [.int (i : Nat), y])]⟩
theorem wi_L {tl : TE} {Φ : Src → List HP → Prop} (h : We tl σ ps fun x ps1 => ∃ a xs, x = .ref a ∧ RdL K ps1 a xs ∧ Φ (srcL K a xs) ps1) : Wi (iList K tl) σ ps Φ := fun H R s q =>
  h H _ s fun x ps1 H1 ⟨a, xs, e, rd, k⟩ s1 => ⟨a, e, ⟨xs, rd.at' s1⟩, q (srcL K a xs) _ ps1 H1 ⟨fun i ps H r s hi => ⟨⟨xs, xs[i], RdL.at' r s, List.getElem?_eq_getElem hi⟩, fun x H' ⟨e1, e2⟩ => ⟨[], ⟨e2 xs (RdL.at' r s), rfl⟩, by subst e1; exact s⟩⟩,
    fun ps H r s => ⟨xs, RdL.at' r s, Nat.le_refl _⟩⟩ k s1⟩
theorem wi_R1 {Φ : Src → List HP → Prop} (h : Wa tr σ ps fun vs ps1 => ∃ (j : Int) (n : Nat), vs = [.int j] ∧ n = j.toNat ∧ (-(2 ^ 60) ≤ j ∧ j < 2 ^ 60) ∧ Φ (srcR 0 n) ps1) : Wi (iRng1 tr) σ ps Φ := fun H R s q =>
  h H _ s fun vs ps1 H1 ⟨j, n, e, en, hj, k⟩ s1 => ⟨j, e, by omega, by omega, by
    subst en
    exact q (srcR 0 j.toNat) _ ps1 H1 ⟨fun i ps H r s hi => ⟨hi, fun x H' ⟨e1, e2⟩ => ⟨[], ⟨e2, rfl⟩, by subst e1; exact s⟩⟩, fun ps H r s => Nat.le_refl _⟩ k s1⟩
theorem wi_V {Φ : Src → List HP → Prop} (h : Wa tr σ ps fun vs ps1 => ∃ a xs, vs = [.ref a] ∧ RdL K ps1 a xs ∧ Φ (srcV K a xs) ps1) : Wi (iRev K tr) σ ps Φ := fun H R s q =>
  h H _ s fun vs ps1 H1 ⟨a, xs, e, rd, k⟩ s1 => ⟨a, xs, e, rd.at' s1, q (srcV K a xs) _ ps1 H1 ⟨fun i ps H r s hi => by
    have hi : i < xs.length := hi
    have hx : xs.length - 1 - i < xs.length := by omega
    exact ⟨⟨hi, xs, xs[xs.length - 1 - i], RdL.at' r s, List.getElem?_eq_getElem hx⟩, fun x H' ⟨e1, e2⟩ => ⟨[], ⟨e2 xs (RdL.at' r s), rfl⟩, by subst e1; exact s⟩⟩, fun ps H r s => Nat.le_refl _⟩ k s1⟩
theorem wi_E {Φ : Src → List HP → Prop} (h : Wa tr σ ps fun vs ps1 => ∃ a xs, vs = [.ref a] ∧ RdL K ps1 a xs ∧ Φ (srcE K a xs) ps1) : Wi (iEnum K tr) σ ps Φ := fun H R s q =>
  h H _ s fun vs ps1 H1 ⟨a, xs, e, rd, k⟩ s1 => ⟨a, xs, e, rd.at' s1, q (srcE K a xs) _ ps1 H1 ⟨fun i ps H r s hi => ⟨⟨xs, xs[i], RdL.at' r s, List.getElem?_eq_getElem hi⟩, by
    rintro v H' ⟨T, x, rfl, hT, rfl, hx⟩
    exact ⟨[pt T (.tup [.int (i : Nat), x])], ⟨T, x, hx xs (RdL.at' r s), rfl, rfl⟩, s.new hT⟩⟩, fun ps H r s => ⟨xs, RdL.at' r s, Nat.le_refl _⟩⟩ k s1⟩
theorem ws_for {wi : TI} {g : TG} (h : Wi wi σ ps fun S ps1 => ∃ W : Nat → L2.St → List HP → Prop, W 0 σ ps1 ∧ (∀ i σ ps, W i σ ps → i ≤ S.n → S.rd ps) ∧
    (∀ i x ex σ ps, i < S.n → S.item i x ex → W i σ ps → Wg g x σ (ex ++ ps) fun σ2 ps2 => Ws ts (W (i + 1)) rt nx (W (i + 1)) σ2 ps2) ∧ ∀ σ ps, W S.n σ ps → nx σ ps) : Ws (tFor wi g ts) nx rt bk ct σ ps := fun H D' s l =>
  h H _ s fun S J ps1 H1 ok ⟨W, w0, wl, wt, we⟩ s1 => by
    refine ⟨fun i m σ H => m + i = S.n ∧ ∃ ps, W i σ ps ∧ Sat H ps, ⟨S.n, rfl, ps1, w0, s1⟩, fun i m σ H ⟨hm, ps, w, s⟩ => ?_⟩
    have rd := wl i σ ps w (by omega)
    by_cases hi : i < S.n
    · obtain ⟨g1, g2⟩ := ok.go i ps H rd s hi
      refine .inr ⟨g1, fun σ' H' => ∃ ps', W (i + 1) σ' ps' ∧ Sat H' ps', fun σ' H' ⟨ps', w', s'⟩ => ⟨m - 1, by omega, by omega, ps', w', s'⟩, fun x H' y => ?_⟩
      obtain ⟨ex, it, s2⟩ := g2 x H' y
      exact wt i x ex σ ps hi it w _ _ s2 fun σ2 ps2 H2 h2 s2 => h2 H2 _ s2 ⟨fun σ ps H k s => ⟨ps, k, s⟩, l.rt, fun σ ps H k s => l.nx _ _ _ k s, fun σ ps H k s => ⟨ps, k, s⟩⟩
    · have e : i = S.n := by omega
      subst e
      exact .inl ⟨ok.stop ps H rd s, l.nx _ _ _ (we σ ps w) s⟩
theorem ws_while (W : Nat → L2.St → List HP → Prop) (w0 : ∃ m, W m σ ps)
    (hs : ∀ m σ ps, W m σ ps → Wt t σ ps fun b ps1 => if b = true then Ws ts (fun σ' ps' => ∃ m', m' < m ∧ W m' σ' ps') rt nx (fun σ' ps' => ∃ m', m' < m ∧ W m' σ' ps') σ ps1 else nx σ ps1) : Ws (tWhile t ts) nx rt bk ct σ ps := fun H D' s l => by
  obtain ⟨m0, w0⟩ := w0
  refine ⟨fun m σ H => ∃ ps, W m σ ps ∧ Sat H ps, ⟨m0, ps, w0, s⟩, fun m σ H ⟨ps, w, s⟩ => ?_⟩
  refine hs m σ ps w H _ s fun b ps1 H1 k s1 => ?_
  cases b with
  | true =>
    rw [if_pos rfl] at k ⊢
    refine ⟨fun σ' H' => ∃ ps', (∃ m', m' < m ∧ W m' σ' ps') ∧ Sat H' ps', fun σ' H' ⟨ps', ⟨m', h1, h2⟩, h3⟩ => ⟨m', h1, ps', h2, h3⟩, ?_⟩
    exact k H1 _ s1 ⟨fun σ ps H k s => ⟨ps, k, s⟩, l.rt, fun σ ps H k s => l.nx _ _ _ k s, fun σ ps H k s => ⟨ps, k, s⟩⟩
  | false =>
    rw [if_neg Bool.false_ne_true] at k ⊢
    exact l.nx _ _ _ k s1
theorem wt_yes {Φ : Bool → List HP → Prop} (k : Φ true ps) : Wt tYes σ ps Φ := fun H Q s q => q _ _ _ k s
noncomputable def WipG (σ σ' : L2.St) (k : Prop) : Prop := σ = σ' ∧ k
theorem wipG {σ σ' : L2.St} {k : Prop} (e : σ = σ') (h : k) : WipG σ σ' k := ⟨e, h⟩
noncomputable def AccG (d : Addr) (acc : List V) (y : V) (ps : List HP) (k : List V → List HP → Prop) : Prop := acc.length < sizeLine ∧ ∃ ps', Rep (pt d (.lst acc)) (pt d (.lst (acc ++ [y]))) ps ps' ∧ k (acc ++ [y]) ps'
theorem accG {d : Addr} {acc : List V} {k : List V → List HP → Prop} (r : Rep (pt d (.lst acc)) (pt d (.lst (acc ++ [y]))) ps ps') (l : acc.length < sizeLine) (h : k (acc ++ [y]) ps') : AccG d acc y ps k := ⟨l, ps', r, h⟩
theorem we_lc {wi : TI} {g : TG} {ns : List Nat} (h : Wi wi σ ps fun S ps1 => ∃ W : Addr → Nat → List V → List HP → Prop, (∀ d, W d 0 [] (pt d (.lst []) :: ps1)) ∧ (∀ d i acc ps, W d i acc ps → i ≤ S.n → S.rd ps) ∧
    (∀ d i x ex acc ps, i < S.n → S.item i x ex → W d i acc ps → Wg g x (wipe σ ns) (ex ++ ps) fun σ2 ps2 => WipG (wipe σ2 ns) (wipe σ ns) (Wt t σ2 ps2 fun b ps3 =>
      if b = true then We te σ2 ps3 fun y ps4 => AccG d acc y ps4 (W d (i + 1)) else W d (i + 1) acc ps3)) ∧
    ∀ d acc ps, W d S.n acc ps → Φ (.ref d) ps) : We (tLc wi g t te ns) σ ps Φ := fun H Q s q =>
  h H _ s fun S J ps1 H1 ok hz s1 d hd => by
    obtain ⟨W, w0, wl, wt, we⟩ := hz
    refine ⟨fun i m H => m + i = S.n ∧ ∃ acc ps, W d i acc ps ∧ Sat H ps, ⟨S.n, rfl, [], _, w0 d, s1.new hd⟩, fun i m H ⟨hm, acc, ps, w, s⟩ => ?_⟩
    have rd := wl d i acc ps w (by omega)
    by_cases hi : i < S.n
    · obtain ⟨g1, g2⟩ := ok.go i ps H rd s hi
      refine .inr ⟨g1, fun H' => ∃ acc ps', W d (i + 1) acc ps' ∧ Sat H' ps', fun H' ⟨acc', ps', w', s'⟩ => ⟨m - 1, by omega, by omega, acc', ps', w', s'⟩, fun x H' y => ?_⟩
      obtain ⟨ex, it, s2⟩ := g2 x H' y
      refine wt d i x ex acc ps hi it w _ _ s2 fun σ2 ps2 H2 ⟨ew, h2⟩ s2 => ⟨ew, h2 H2 _ s2 fun b ps3 H3 k s3 => ?_⟩
      cases b with
      | true =>
        rw [if_pos rfl] at k ⊢
        refine k H3 _ s3 fun y ps4 H4 ⟨hl, ps5, r, w5⟩ s4 => ?_
        exact ⟨acc, s4.get r.mem, hl, acc ++ [y], ps5, w5, s4.rep r⟩
      | false =>
        rw [if_neg Bool.false_ne_true] at k ⊢
        exact ⟨acc, ps3, k, s3⟩
    · have e : i = S.n := by omega
      subst e
      exact .inl ⟨ok.stop ps H rd s, q _ _ _ (we d acc ps w) s⟩
noncomputable abbrev SP := List V → List HP → (V → List HP → Prop) → Prop
noncomputable def spS (S : SP) : L2.Sp := fun vs H Q _ => ∃ ps Φ, Sat H ps ∧ S vs ps Φ ∧ ∀ v ps' H', Φ v ps' → Sat H' ps' → Q v H'
noncomputable abbrev SX := List V → List HP → (V → List HP → Prop) → (Value → List HP → Prop) → Prop
noncomputable def spX (S : SX) : L2.Sp := fun vs H Q E => ∃ ps Φ Ψ, Sat H ps ∧ S vs ps Φ Ψ ∧ (∀ v ps' H', Φ v ps' → Sat H' ps' → Q v H') ∧ ∀ c ps' H', Ψ c ps' → Sat H' ps' → E c none H'
theorem we_call {S : SP} {E : XK} (h : Wa tr σ ps fun vs ps1 => S vs ps1 Φ) : We (tCall (spS S) [] E tr) σ ps Φ := fun H Q s q => h H _ s fun vs ps1 H1 k s1 => by
  show spS S (vs ++ []) H1 Q E
  rw [List.append_nil]
  exact ⟨ps1, Φ, s1, k, q⟩
noncomputable def MethG (C : Addr) (m : Str) (x : V) (ps : List HP) (k : List HP → Prop) : Prop := ∃ a, x = .ref a ∧ (∀ H, Sat H ps → ∃ dx fs, H a = some (.ins C dx fs) ∧ fs.lookup m = none) ∧ k ps
theorem methG {names : List Str} {I : CI K names} {fs : List (Str × V)} {r : List Str} {m : Str} {k : List HP → Prop} (h : obj I a fs ∈ ps) (p : fs.map (·.1) ++ r = names) (n : m ∉ names) (q : k ps) : MethG I.C m (.ref a) ps k := ⟨a, rfl, fun H s => by
  obtain ⟨dx, e⟩ := s.obj h
  exact ⟨dx, fs, e, lookup_not fun z => n (by rw [← p]; exact List.mem_append_left _ z)⟩, q⟩
theorem methC {c : HP} {C : Addr} {m : Str} {k : List HP → Prop} (h : c ∈ ps) (e : ∀ H R, Sat H (c :: R) → ∃ dx fs, H a = some (.ins C dx fs) ∧ fs.lookup m = none) (q : k ps) : MethG C m (.ref a) ps k := ⟨a, rfl, fun H s => by
  obtain ⟨l1, l2, rfl⟩ := List.append_of_mem h
  exact e H _ (s.perm List.perm_middle), q⟩
theorem MethG.at' {C : Addr} {m : Str} {k : List HP → Prop} {H : Hp} (g : MethG C m x ps k) (s : Sat H ps) : ∃ a dx fs, x = .ref a ∧ H a = some (.ins C dx fs) ∧ fs.lookup m = none ∧ k ps := by
  obtain ⟨a, rfl, h, q⟩ := g
  obtain ⟨dx, fs, e1, e2⟩ := h H s
  exact ⟨a, dx, fs, rfl, e1, e2, q⟩
theorem we_meth {S : SP} {E : XK} {C : Addr} {m : Str} (h : We te σ ps fun x ps1 => MethG C m x ps1 fun ps1 => Wa tr σ ps1 fun vs ps2 => S (x :: vs) ps2 Φ) : We (tMeth C m (spS S) [] E te tr) σ ps Φ := fun H Q s q =>
  h H _ s fun x ps1 H1 g s1 => by
    obtain ⟨a, dx, fs, e1, e2, e3, k⟩ := g.at' s1
    refine ⟨a, dx, fs, e1, e2, e3, k H1 _ s1 fun vs ps2 H2 k2 s2 => ?_⟩
    show spS S (x :: (vs ++ [])) H2 Q E
    rw [List.append_nil]
    exact ⟨ps2, Φ, s2, k2, q⟩
theorem we_make {S : SP} {E : XK} {names : List Str} {I : CI K names} (h : Wa tr σ ps fun vs ps1 => ∀ x, S (.ref x :: vs) (obj I x [] :: ps1) fun v ps2 => v = .non ∧ Φ (.ref x) ps2) : We (tMake I.C (spS S) [] E tr) σ ps Φ := fun H Q s q =>
  h H _ s fun vs ps1 H1 k s1 x dx hx hdx ne => by
    show spS S (.ref x :: (vs ++ [])) _ _ E
    rw [List.append_nil]
    refine ⟨_, _, ?_, k x, fun v ps' H' ⟨e, f⟩ s' => ⟨e, q _ _ _ f s'⟩⟩
    have t1 := s1.new (o := .own x) hdx
    have t2 := t1.new (a := x) (o := .ins I.C dx []) (by rw [upd_ne (Ne.symm ne)]; exact hx)
    have t3 := t2.perm (List.Perm.swap _ _ _)
    have t4 := t3.drop
    unfold Sp.obj
    exact Sat.ex.mpr ⟨dx, t4⟩
theorem we_callX {S : SX} {E : XK} {Ψ : Value → List HP → Prop} (hE : ∀ c ps' H', Ψ c ps' → Sat H' ps' → E c none H') (h : Wa tr σ ps fun vs ps1 => S vs ps1 Φ Ψ) : We (tCall (spX S) [] E tr) σ ps Φ := fun H Q s q => h H _ s fun vs ps1 H1 k s1 => by
  show spX S (vs ++ []) H1 Q E
  rw [List.append_nil]
  exact ⟨ps1, Φ, Ψ, s1, k, q, hE⟩
theorem we_methX {S : SX} {E : XK} {Ψ : Value → List HP → Prop} {C : Addr} {m : Str} (hE : ∀ c ps' H', Ψ c ps' → Sat H' ps' → E c none H') (h : We te σ ps fun x ps1 => MethG C m x ps1 fun ps1 => Wa tr σ ps1 fun vs ps2 => S (x :: vs) ps2 Φ Ψ) : We (tMeth C m (spX S) [] E te tr) σ ps Φ := fun H Q s q =>
  h H _ s fun x ps1 H1 g s1 => by
    obtain ⟨a, dx, fs, e1, e2, e3, k⟩ := g.at' s1
    refine ⟨a, dx, fs, e1, e2, e3, k H1 _ s1 fun vs ps2 H2 k2 s2 => ?_⟩
    show spX S (x :: (vs ++ [])) H2 Q E
    rw [List.append_nil]
    exact ⟨ps2, Φ, Ψ, s2, k2, q, hE⟩
theorem we_makeX {S : SX} {E : XK} {Ψ : Value → List HP → Prop} {names : List Str} {I : CI K names} (hE : ∀ c ps' H', Ψ c ps' → Sat H' ps' → E c none H') (h : Wa tr σ ps fun vs ps1 => ∀ x, S (.ref x :: vs) (obj I x [] :: ps1) (fun v ps2 => v = .non ∧ Φ (.ref x) ps2) Ψ) : We (tMake I.C (spX S) [] E tr) σ ps Φ := fun H Q s q =>
  h H _ s fun vs ps1 H1 k s1 x dx hx hdx ne => by
    show spX S (.ref x :: (vs ++ [])) _ _ E
    rw [List.append_nil]
    refine ⟨_, _, Ψ, ?_, k x, fun v ps' H' ⟨e, f⟩ s' => ⟨e, q _ _ _ f s'⟩, hE⟩
    have t1 := s1.new (o := .own x) hdx
    have t2 := t1.new (a := x) (o := .ins I.C dx []) (by rw [upd_ne (Ne.symm ne)]; exact hx)
    have t3 := t2.perm (List.Perm.swap _ _ _)
    have t4 := t3.drop
    unfold Sp.obj
    exact Sat.ex.mpr ⟨dx, t4⟩
noncomputable def OutP (Φ : V → List HP → Prop) (v : V) (ps : List HP) : Prop := ∀ H, Sat H ps → ∃ ps', Sat H ps' ∧ Φ v ps'
noncomputable abbrev noN : PN := fun _ _ => False
end
section
variable {P : Program} {w : World} {K : PySem.W.Frag} {mg : Str → Option Value} {base : Heap}
theorem okS {x qual : Str} {st : Stmt} {f : Addr} {fd : FuncData} {N pars : List Str} {k : Nat} {S : SP} (F : Fun K x qual st f fd) (Sc : FnScope N pars (defScope st)) (len : ∀ vs ps Φ, S vs ps Φ → vs.length = pars.length)
    (body : ∀ (cdv : Value) (A : Around) (outer : List Env) (s : Shared) (H : Hp) (E : XK), Room k (A.deeper (envOfC qual (defScope st) s.heap.objs.size f cdv)) →
      ∃ t, PSs (cxOf CX0 P w K mg base N qual (defScope st) f cdv A outer s H E).nox (defBody st) t ∧ ∀ vs ps Φ, S vs ps Φ → Ws t (fun _ ps' => OutP Φ .non ps') (OutP Φ) noN noN (start N vs) ps) : FnOk P w K mg base CX0 (k + 1) f fd pars (spS S) := by
  refine F.ok Sc (fun vs H Q E h => ?_) (fun cdv A outer s H vs Q E hr h => ?_)
  · obtain ⟨ps, Φ, _, h, _⟩ := h
    exact len vs ps Φ h
  · obtain ⟨ps, Φ, s0, h, q⟩ := h
    obtain ⟨t, d, r⟩ := body cdv A outer s H E hr
    exact ⟨t, d, r vs ps Φ h H _ s0 ⟨fun σ ps' H' o s' => let ⟨ps2, s2, f⟩ := o H' s'; q _ _ _ f s2, fun v ps' H' o s' => let ⟨ps2, s2, f⟩ := o H' s'; q _ _ _ f s2, fun _ _ _ z => z.elim, fun _ _ _ z => z.elim⟩⟩
end
theorem pe_or2 {X : Cx} {e : Expr} {t u : TE} (h : PE X e t) (k : PE X e u) : PE X e (fun σ H Q => t σ H Q ∨ u σ H Q) := ⟨fun pins s σ H Q I z => z.elim (fun z => h.run pins s σ H Q I z) fun z => k.run pins s σ H Q I z⟩
end Sp
namespace Sp
open PySem PySem.Spec PyProof.Rows L2
theorem iteD {c : Prop} [Decidable c] {A B : Prop} (h1 : c → A) (h2 : ¬ c → B) : if decide c = true then A else B := by
  by_cases h : c
  · rw [decide_eq_true h, if_pos rfl]; exact h1 h
  · rw [decide_eq_false h, if_neg Bool.false_ne_true]; exact h2 h
theorem iteND {c : Prop} [Decidable c] {A B : Prop} (h1 : ¬ c → A) (h2 : c → B) : if (!decide c) = true then A else B := by
  by_cases h : c
  · rw [decide_eq_true h]; exact h2 h
  · rw [decide_eq_false h]; exact h1 h
theorem OutP.mk' {Φ : V → List HP → Prop} {v : V} {ps ps' : List HP} (e : Ent ps ps') (h : Φ v ps') : OutP Φ v ps := fun H s => ⟨ps', e H s, h⟩
theorem OutP.here {Φ : V → List HP → Prop} {v : V} {ps : List HP} (h : Φ v ps) : OutP Φ v ps := fun H s => ⟨ps, s, h⟩
theorem atI_of {α : Type} {xs : List α} {i : Int} {j : Nat} {v : α} (e : i = (j : Int)) (h : xs[j]? = some v) : atI xs i = some v := by subst e; exact atI_nat h
end Sp
set_option Elab.async false
set_option linter.all false
set_option maxRecDepth 100000
set_option maxHeartbeats 4000000
namespace Sp
open PySem PySem.Spec PyProof.Rows L2
section
variable {K : PySem.W.Frag} {te ta tb tv td ti : TE} {t u : TT} {tr : TA} {σ : L2.St} {ps ps' ps1 R : List HP} {Φ : V → List HP → Prop} {x y v : V} {a b p : Addr} {xs ys : List V}
inductive RdDs (K : PySem.W.Frag) (ps : List HP) : List V → List PyData → Prop
  | nil : RdDs K ps [] []
  | cons {v : V} {d : PyData} {vs : List V} {ds : List PyData} (h : ∀ H, Sat H ps → Dp K H v d) (t : RdDs K ps vs ds) : RdDs K ps (v :: vs) (d :: ds)
theorem RdDs.all {vs : List V} {ds : List PyData} (h : RdDs K ps vs ds) {H : Hp} (s : Sat H ps) : DpAll K H vs ds := by
  induction h with
  | nil => exact .nil
  | cons h _ ih => exact .cons (h H s) ih
theorem rdd_list {ds : List PyData} (h : RdL K ps a xs) (g : RdDs K ps xs ds) (s : SeqAt.shaped (.list ds) = true) : RdD K ps (.ref a) (.list ds) := by
  unfold RdD
  exact ⟨fun H z => .lst (h.at' z) (g.all z), s⟩
theorem rdd_tup {ds : List PyData} (h : RdT K ps a xs) (g : RdDs K ps xs ds) (s : SeqAt.shaped (.tuple ds) = true) : RdD K ps (.ref a) (.tuple ds) := by
  unfold RdD
  exact ⟨fun H z => .tup (h.at' z) (g.all z), s⟩
theorem RdD.dp {d : PyData} (h : RdD K ps v d) : ∀ H, Sat H ps → Dp K H v d := by unfold RdD at h; exact h.1
theorem RdD.ent {d : PyData} (e : Ent ps ps') (h : RdD K ps' v d) : RdD K ps v d := by
  unfold RdD at *; exact ⟨fun H s => h.1 H (e H s), h.2⟩
theorem rdds_ints (ns : List Int) : RdDs K ps (ns.map V.int) (ns.map PyData.int) := by
  induction ns with
  | nil => exact .nil
  | cons n r ih => exact .cons (fun _ _ => .int n) ih
theorem canLay_ints (ns : List Int) : PyData.canLayAll0 (ns.map PyData.int) = true := by
  induction ns with
  | nil => rfl
  | cons n r ih => simp [PyData.canLayAll0, PyData.canLay0, ih]
theorem depthAll_ints (ns : List Int) : PyData.depthAll (ns.map PyData.int) ≤ 1 := by
  induction ns with
  | nil => simp [PyData.depthAll]
  | cons n r ih => simp only [List.map, PyData.depthAll, PyData.depth]; omega
theorem shaped_ints (ns : List Int) : SeqAt.shaped (.list (ns.map PyData.int)) = true := by
  have h := depthAll_ints ns
  unfold SeqAt.shaped
  refine Bool.and_eq_true_iff.mpr ⟨canLay_ints ns, decide_eq_true ?_⟩
  show PyData.depthAll (ns.map PyData.int) + 1 ≤ 64
  omega
theorem shaped_tints (ns : List Int) : SeqAt.shaped (.tuple (ns.map PyData.int)) = true := by
  have h := depthAll_ints ns
  unfold SeqAt.shaped
  refine Bool.and_eq_true_iff.mpr ⟨canLay_ints ns, decide_eq_true ?_⟩
  show PyData.depthAll (ns.map PyData.int) + 1 ≤ 64
  omega
theorem rdd_ints {ns : List Int} (h : RdL K ps a (ns.map V.int)) : RdD K ps (.ref a) (.list (ns.map .int)) := rdd_list h (rdds_ints ns) (shaped_ints ns)
theorem rdd_tints {ns : List Int} (h : RdT K ps a (ns.map V.int)) : RdD K ps (.ref a) (.tuple (ns.map .int)) := rdd_tup h (rdds_ints ns) (shaped_tints ns)
theorem eqvAll_ints : ∀ ns ms : List Int, PyData.eqvAll (ns.map .int) (ms.map .int) = decide (ns = ms)
  | [], [] => by simp [PyData.eqvAll]
  | [], _ :: _ => by simp [PyData.eqvAll]
  | _ :: _, [] => by simp [PyData.eqvAll]
  | n :: ns, m :: ms => by
    simp only [List.map, PyData.eqvAll, PyData.eqv, eqvAll_ints ns ms, List.cons.injEq]
    by_cases h : n = m
    · subst h; simp
    · simp [h]
theorem eqv_ints (ns ms : List Int) : PyData.eqv (.list (ns.map .int)) (.list (ms.map .int)) = decide (ns = ms) := by
  simp only [PyData.eqv]; exact eqvAll_ints ns ms
theorem eqv_tints (ns ms : List Int) : PyData.eqv (.tuple (ns.map .int)) (.tuple (ms.map .int)) = decide (ns = ms) := by
  simp only [PyData.eqv]; exact eqvAll_ints ns ms
noncomputable def rIsiW (K : PySem.W.Frag) : List V → Hp → VK → Prop := rIsi K
theorem cr_isi {X : Cx} : CallR X (.builtin "isinstance") (rIsiW X.K) := call_isi
inductive TyP (K : PySem.W.Frag) (ps : List HP) : V → String → Prop
  | non : TyP K ps .non "NoneType"
  | bl (c : Bool) : TyP K ps (.bl c) "bool"
  | int (i : Int) : TyP K ps (.int i) "int"
  | str (z : Str) : TyP K ps (.str z) "str"
  | lst {a : Addr} {xs : List V} (m : pt a (.lst xs) ∈ ps) : TyP K ps (.ref a) "list"
  | tup {a : Addr} {xs : List V} (m : pt a (.tup xs) ∈ ps) : TyP K ps (.ref a) "tuple"
  | of {a : Addr} {n : String} (h : ∀ H, Sat H ps → TyX K H (.ref a) (.type n)) : TyP K ps (.ref a) n
theorem TyP.tyx {n : String} (h : TyP K ps x n) {H : Hp} (s : Sat H ps) : TyX K H x (.type n) := by
  cases h with
  | non => exact .base .non
  | bl c => exact .base (.bl c)
  | int i => exact .base (.int i)
  | str z => exact .base (.str z)
  | lst m => exact .base (.lst (s.get m))
  | tup m => exact .base (.tup (s.get m))
  | of h => exact h H s
theorem wc_isi {n m : String} {c : Bool} (h : TyP K ps x n) (g : kitB n m = some c) (k : Φ (.bl c) ps) : Wc (rIsiW K) [x, .ty m] ps Φ := fun H Q s q =>
  ⟨x, .ty m, .type n, .type m, c, rfl, .ty m, h.tyx s, kit_ty g, q _ _ _ k s⟩
@[irreducible] noncomputable def scr (K : PySem.W.Frag) (a : Addr) (ns : List Int) : HP := fun L => (∃ o, L = [(a, .frz o (.lst (ns.map V.int)))]) ∨ (L = [(a, .lst (ns.map V.int))]) ∨ (L = [] ∧ ∀ H : Hp, SqL K H a (ns.map V.int))
theorem rdl_scr {ns : List Int} (m : scr K a ns ∈ ps) : RdL K ps a (ns.map V.int) := by
  unfold RdL
  intro H s
  unfold Sat at s
  obtain ⟨L, hO, hL⟩ := s
  obtain ⟨L1, h1, k⟩ := stars_mem m hL
  unfold scr at h1
  rcases h1 with ⟨o, rfl⟩ | rfl | ⟨_, h⟩
  · exact .inl (.inr ⟨o, hO.2 _ (k _ (List.mem_cons_self ..))⟩)
  · exact .inl (.inl (hO.2 _ (k _ (List.mem_cons_self ..))))
  · exact h H
theorem Sat.scr {ns : List Int} {H : Hp} (h : SqL K H a (ns.map V.int)) : Sat H [Sp.scr K a ns] := by
  unfold Sat
  rcases h with (h | ⟨o, h⟩) | h
  · refine ⟨[(a, .lst (ns.map V.int))], ⟨by simp, ?_⟩, [(a, .lst (ns.map V.int))], [], rfl, ?_, rfl⟩
    · intro c hc
      obtain rfl := List.mem_singleton.mp hc
      exact h
    · unfold Sp.scr; exact .inr (.inl rfl)
  · refine ⟨[(a, .frz o (.lst (ns.map V.int)))], ⟨by simp, ?_⟩, [(a, .frz o (.lst (ns.map V.int)))], [], rfl, ?_, rfl⟩
    · intro c hc
      obtain rfl := List.mem_singleton.mp hc
      exact h
    · unfold Sp.scr; exact .inl ⟨o, rfl⟩
  · exact ⟨[], ⟨List.nodup_nil, fun c hc => nomatch hc⟩, [], [], rfl, by unfold Sp.scr; exact .inr (.inr ⟨rfl, fun _ => .inr h⟩), rfl⟩
@[irreducible] noncomputable def dice (p a : Addr) : HP := exh fun (z : Int × Int × Int) => pt p (.lst [.int z.1, .ref a, .int z.2.1, .int z.2.2])
theorem Ent.dice {p a : Addr} {x j b : Int} : Ent (pt p (.lst [.int x, .ref a, .int j, .int b]) :: R) (Sp.dice p a :: R) := by
  unfold Sp.dice
  exact Ent.ex (f := fun (z : Int × Int × Int) => pt p (.lst [.int z.1, .ref a, .int z.2.1, .int z.2.2])) (x, j, b)
theorem Ws.dice {ts : TS} {nx : PN} {rt : V → List HP → Prop} {bk ct : PN} {p a : Addr} (h : ∀ x j b, Ws ts nx rt bk ct σ (pt p (.lst [.int x, .ref a, .int j, .int b]) :: ps)) : Ws ts nx rt bk ct σ (Sp.dice p a :: ps) := by
  unfold Sp.dice
  exact Ws.ex fun z => h z.1 z.2.1 z.2.2
end
end Sp
namespace Sp
theorem getD_lt {α : Type} {xs : List α} {i : Nat} {d : α} (h : i < xs.length) : xs[i]? = some (xs.getD i d) := by
  rw [List.getD_eq_getElem?_getD, List.getElem?_eq_getElem h]; rfl
theorem getD_ge {α : Type} {xs : List α} {i : Nat} {d : α} (h : xs.length ≤ i) : xs.getD i d = d := by
  rw [List.getD_eq_getElem?_getD, List.getElem?_eq_none h]; rfl
theorem map_at {α β : Type} {f : α → β} {xs : List α} {i : Nat} {x : α} (h : xs[i]? = some x) : (xs.map f)[i]? = some (f x) := by
  rw [List.getElem?_map, h]; rfl
end Sp
namespace Sp
open PySem PySem.Spec PyProof.Rows L2
theorem wst_Lz {ps ps' : List HP} {a : Addr} {xs : List V} {y : V} {i : Int} {Ψ : List HP → Prop} (m : Rep (pt a (.lst xs)) (pt a (.lst (xs.set i.toNat y))) ps ps') (h : 0 ≤ i) (l : i.toNat < xs.length) (k : Ψ ps') : Wst rSetL (.ref a) (.int i) y ps Ψ :=
  wst_L (n := i.toNat) m (Int.toNat_of_nonneg h).symm l k
theorem cmul_if {c : Bool} {j : Int} : CMul (if c = true then 1 else 0) j := by
  cases c
  · exact Or.inl ⟨by decide, by decide⟩
  · exact Or.inl ⟨by decide, by decide⟩
end Sp
namespace Sp
open PySem PySem.Spec PyProof.Rows L2
theorem RdL.cons {K : PySem.W.Frag} {c : HP} {R : List HP} {a : Addr} {xs : List V} (h : RdL K R a xs) : RdL K (c :: R) a xs := RdL.ent Ent.drop h
theorem RdT.cons {K : PySem.W.Frag} {c : HP} {R : List HP} {a : Addr} {xs : List V} (h : RdT K R a xs) : RdT K (c :: R) a xs := RdT.ent Ent.drop h
theorem mod_nat {i m : Int} (h : 0 < m) : ∃ r : Nat, i % m = (r : Int) ∧ (r : Int) < m := ⟨(i % m).toNat, (Int.toNat_of_nonneg (Int.emod_nonneg _ (by omega))).symm, by
  rw [Int.toNat_of_nonneg (Int.emod_nonneg _ (by omega))]; exact Int.emod_lt_of_pos _ h⟩
end Sp
namespace Sp
open PySem PySem.Spec PyProof.Rows L2
theorem snocI (row : List Int) (x : Int) : row.map V.int ++ [.int x] = (row ++ [x]).map V.int := by rw [List.map_append]; rfl
end Sp
namespace Sp
open PySem PySem.Spec PyProof.Rows L2
section
variable {ts tz : TS} {nx : PN} {rt : V → List HP → Prop} {bk ct : PN} {σ : L2.St} {ps : List HP}
theorem ws_word (Mid : PN) (h : Ws ts Mid rt bk ct σ ps) (k : ∀ σ ps, Mid σ ps → Ws tz nx rt bk ct σ ps) : Ws (Evl.tCut ts tz) nx rt bk ct σ ps := fun H D' s l =>
  ⟨fun σ' H' => ∃ ps', Mid σ' ps' ∧ Sat H' ps', h H _ s ⟨fun σ' ps' H' k s' => ⟨ps', k, s'⟩, l.rt, l.bk, l.ct⟩, fun σ' H' ⟨ps', m, s'⟩ => k σ' ps' m H' D' s' l⟩
theorem ws_plain (h : Ws ts (fun σ' ps' => Ws tz nx rt bk ct σ' ps') rt bk ct σ ps) : Ws (Evl.tCut ts tz) nx rt bk ct σ ps := ws_word _ h fun _ _ x => x
theorem wg_nil {g : TG} {v : V} {Φ : PN} (h : Wg g v σ ps Φ) : Wg g v σ ([] ++ ps) Φ := h
theorem wg_one {g : TG} {v : V} {c : HP} {Φ : PN} (h : Wg g v σ (c :: ps) Φ) : Wg g v σ ([c] ++ ps) Φ := h
end
end Sp
namespace Sp
open PySem PySem.Spec PyProof.Rows L2
theorem Wg.ent {g : TG} {v : V} {σ : L2.St} {ps ps' ex : List HP} {Φ : PN} (e : Ent ps ps') (h : Wg g v σ (ex ++ ps') Φ) : Wg g v σ (ex ++ ps) Φ := fun H Q s k => h H Q (Ent.app e H s) k
theorem Ent.of {cs ps R : List HP} (h : Picks cs ps R) : Ent ps cs := (Ent.picks h).trans ((Ent.perm List.perm_append_comm).trans Ent.dropAll)
end Sp
namespace Sp
open PySem PySem.Spec PyProof.Rows L2
theorem rdd_nil {K : PySem.W.Frag} {ps : List HP} {a : Addr} (h : RdL K ps a []) : RdD K ps (.ref a) (.list []) := rdd_ints (ns := []) h
end Sp
namespace Sp
theorem iteNT {A B : Prop} (h : B) : if (!true) = true then A else B := h
theorem iteNF {A B : Prop} (h : A) : if (!false) = true then A else B := h
end Sp
namespace Sp
theorem iteTe {b : Bool} {A B : Prop} (e : b = true) (h : A) : if b = true then A else B := by subst e; exact h
theorem iteFe {b : Bool} {A B : Prop} (e : b = false) (h : B) : if b = true then A else B := by subst e; exact iteF' h
where
  iteF' {A B : Prop} (h : B) : if false = true then A else B := h
end Sp
set_option Elab.async false
set_option linter.all false
set_option maxRecDepth 100000
set_option maxHeartbeats 4000000
namespace Sp
open PySem PySem.Spec PyProof.Rows L2
section
variable {κ : Type} [DecidableEq κ]
theorem valV_of : ∀ {kvs : List (κ × V)} {k : κ} {v : V}, (kvs.map (·.1)).Nodup → (k, v) ∈ kvs → valV kvs k = some v
  | [], _, _, _, m => nomatch m
  | (g, x) :: r, k, v, nd, m => by
    have nd' : (g :: r.map (·.1)).Nodup := nd
    obtain ⟨n1, n2⟩ := List.nodup_cons.mp nd'
    rcases List.mem_cons.mp m with e | m2
    · cases e
      exact valV_pos rfl
    · have hne : ¬ g = k := by
        rintro rfl
        exact n1 (List.mem_map.mpr ⟨(g, v), m2, rfl⟩)
      rw [valV_neg hne]
      exact valV_of n2 m2
inductive KPut (k : κ) (y : V) : List (κ × V) → List (κ × V) → Prop
  | hd {x : V} {r : List (κ × V)} : KPut k y ((k, x) :: r) ((k, y) :: r)
  | tl {g : κ} {x : V} {r r' : List (κ × V)} (h : KPut k y r r') : KPut k y ((g, x) :: r) ((g, x) :: r')
theorem KPut.keys {k : κ} {y : V} {kvs kvs' : List (κ × V)} (h : KPut k y kvs kvs') : kvs'.map (·.1) = kvs.map (·.1) ∧ k ∈ kvs.map (·.1) := by
  induction h with
  | hd => exact ⟨rfl, List.mem_cons_self ..⟩
  | tl _ ih => exact ⟨by rw [List.map_cons, List.map_cons, ih.1], List.mem_cons_of_mem _ ih.2⟩
theorem putK_in {k : κ} {y : V} {kvs : List (κ × V)} (h : k ∈ kvs.map (·.1)) : putK kvs k y = kvs.map (fun kv => if kv.1 = k then (kv.1, y) else kv) := by
  unfold putK
  rw [if_pos]
  obtain ⟨p, hp, e⟩ := List.mem_map.mp h
  exact List.any_eq_true.mpr ⟨p, hp, decide_eq_true e⟩
theorem map_out {k : κ} {y : V} : ∀ {kvs : List (κ × V)}, k ∉ kvs.map (·.1) → kvs.map (fun kv => if kv.1 = k then (kv.1, y) else kv) = kvs
  | [], _ => rfl
  | (g, x) :: r, h => by
    have hne : ¬ g = k := fun e => h (by subst e; exact List.mem_cons_self ..)
    rw [List.map_cons, map_out fun m => h (List.mem_cons_of_mem _ m)]
    simp [hne]
theorem KPut.eq {k : κ} {y : V} {kvs kvs' : List (κ × V)} (h : KPut k y kvs kvs') (nd : (kvs.map (·.1)).Nodup) : putK kvs k y = kvs' := by
  rw [putK_in h.keys.2]
  induction h with
  | @hd x r =>
    have nd' : (k :: r.map (·.1)).Nodup := nd
    rw [List.map_cons, map_out (List.nodup_cons.mp nd').1]
    simp
  | @tl g x r r' h ih =>
    have nd' : (g :: r.map (·.1)).Nodup := nd
    obtain ⟨n1, n2⟩ := List.nodup_cons.mp nd'
    have hne : ¬ g = k := fun e => n1 (by subst e; exact h.keys.2)
    rw [List.map_cons, ih n2]
    simp [hne]
end
section
variable {K : PySem.W.Frag} {ps ps' R : List HP} {Φ : V → List HP → Prop} {a : Addr} {v y : V} {kvs kvs' : List (Key × V)} {z : Str}
theorem dgetS (m : pt a (.dK kvs) ∈ ps) (nd : (kvs.map (·.1)).Nodup) (h : (Sum.inr z, v) ∈ kvs) (k : Φ v ps) : DGetG (.ref a) (.str z) ps Φ :=
  ⟨a, v, rfl, by rw [← valV_of nd h]; exact dgetK (q := Sum.inr z) m rfl, k⟩
theorem dputS {k : List HP → Prop} (nd : (kvs.map (·.1)).Nodup) (h : KPut (Sum.inr z) v kvs kvs') (m0 : pt a (.dK kvs) ∈ ps) (m : Rep (pt a (.dK kvs)) (pt a (.dK kvs')) ps ps') (l : kvs.length < sizeLine) (q : k ps') : DPutG (.ref a) (.str z) v ps k := by
  have e := h.eq nd
  exact dputK (q := Sum.inr z) (kvs := kvs) rfl (by rw [e]; exact m) l q
theorem wp_nil {σ : L2.St} {Φ : List (V × V) → List HP → Prop} (k : Φ [] ps) : Wp [] σ ps Φ := k
theorem wp_cons {tk tv : TE} {r : List (TE × TE)} {σ : L2.St} {Φ : List (V × V) → List HP → Prop} (h : We tk σ ps fun x ps1 => We tv σ ps1 fun y ps2 => Wp r σ ps2 fun l ps3 => Φ ((x, y) :: l) ps3) : Wp ((tk, tv) :: r) σ ps Φ := h
inductive KVs : List (V × V) → List (Key × V) → Prop
  | nil : KVs [] []
  | str {z : Str} {v : V} {l : List (V × V)} {kvs : List (Key × V)} (h : KVs l kvs) : KVs ((.str z, v) :: l) ((Sum.inr z, v) :: kvs)
  | int {i : Int} {v : V} {l : List (V × V)} {kvs : List (Key × V)} (h : KVs l kvs) : KVs ((.int i, v) :: l) ((Sum.inl i, v) :: kvs)
theorem KVs.eq {l : List (V × V)} {kvs : List (Key × V)} (h : KVs l kvs) : l = kvs.map fun kv => (kV kv.1, kv.2) := by
  induction h with
  | nil => rfl
  | str _ ih => rw [ih]; rfl
  | int _ ih => rw [ih]; rfl
theorem mergeK_nd {kvs : List (Key × V)} : ∀ {acc : List (Key × V)}, ((acc ++ kvs).map (·.1)).Nodup → mergeK acc kvs = acc ++ kvs := by
  induction kvs with
  | nil => intro acc _; simp [mergeK]
  | cons p r ih =>
    intro acc nd
    have hn : valV acc p.1 = none := by
      cases e : valV acc p.1 with
      | none => rfl
      | some v =>
        have m := valV_in e
        rw [List.map_append, List.nodup_append] at nd
        exact absurd rfl (nd.2.2 p.1 m p.1 (by simp))
    have e1 : mergeK acc (p :: r) = mergeK (acc ++ [p]) r := by
      show mergeK (putK acc p.1 p.2) r = _
      rw [putK_new p.2 hn]
    rw [e1, ih (by simpa using nd)]
    simp
theorem we_dispS {trs : List (TE × TE)} {σ : L2.St} (h : ∀ p, Wp trs σ (pt p (.dK []) :: ps) fun l ps1 => ∃ (kvs : List (Key × V)) (ps2 : List HP), KVs l kvs ∧ (kvs.map (·.1)).Nodup ∧ kvs.length ≤ 15 ∧ Rep (pt p (.dK [])) (pt p (.dK kvs)) ps1 ps2 ∧ Φ (.ref p) ps2) : We (tDisp trs) σ ps Φ := by
  intro H Q s q p hp
  refine wp_run (h p) _ _ (s.new hp) fun l ps1 H1 ⟨kvs, ps2, e, nd, hl, m, k⟩ s1 => ⟨s1.get m.mem, kvs, e.eq, hl, ?_⟩
  have e1 : mergeK [] kvs = kvs := by
    rw [mergeK_nd (by simpa using nd)]; rfl
  rw [e1]
  exact q _ _ _ k (s1.rep m)
noncomputable def DispG (p : Addr) (l : List (V × V)) (ps1 : List HP) (k : List HP → Prop) : Prop := ∃ (kvs : List (Key × V)) (ps2 : List HP), KVs l kvs ∧ (kvs.map (·.1)).Nodup ∧ kvs.length ≤ 15 ∧ Rep (pt p (.dK [])) (pt p (.dK kvs)) ps1 ps2 ∧ k ps2
theorem dispG {p : Addr} {l : List (V × V)} {ps1 ps2 : List HP} {k : List HP → Prop} {kvs : List (Key × V)} (e : KVs l kvs) (nd : (kvs.map (·.1)).Nodup) (hl : kvs.length ≤ 15) (m : Rep (pt p (.dK [])) (pt p (.dK kvs)) ps1 ps2) (h : k ps2) : DispG p l ps1 k := ⟨kvs, ps2, e, nd, hl, m, h⟩
theorem we_dispG {trs : List (TE × TE)} {σ : L2.St} (h : ∀ p, Wp trs σ (pt p (.dK []) :: ps) fun l ps1 => DispG p l ps1 (Φ (.ref p))) : We (tDisp trs) σ ps Φ := we_dispS h
end
set_option genInjectivity true in
inductive Deed where
  | one | count | set (n : Nat) | look | add (n : Nat) | sum | raise (n : Nat) | top | give (n : Nat) | take
  deriving DecidableEq
noncomputable def Deed.word : Deed → Str
  | .one => "one" | .count => "count" | .set _ => "set" | .look => "look" | .add _ => "add" | .sum => "sum" | .raise _ => "raise" | .top => "top" | .give _ => "give" | .take => "take"
noncomputable def Deed.vals : Deed → List V
  | .one => [.str "one"] | .count => [.str "count"] | .set n => [.str "set", .int n] | .look => [.str "look"] | .add n => [.str "add", .int n] | .sum => [.str "sum"]
  | .raise n => [.str "raise", .int n] | .top => [.str "top"] | .give n => [.str "give", .int n] | .take => [.str "take"]
noncomputable def Deed.ok : Deed → Prop
  | .set n => n < 1000 | .add n => n < 1000 | .raise n => n < 1000 | .give n => n < 1000 | _ => True
inductive Wd where
  | one | count | set | look | add | sum | raise | top | give | take
  deriving DecidableEq
noncomputable def Wd.str : Wd → Str
  | .one => "one" | .count => "count" | .set => "set" | .look => "look" | .add => "add" | .sum => "sum" | .raise => "raise" | .top => "top" | .give => "give" | .take => "take"
noncomputable def Deed.wd : Deed → Wd
  | .one => .one | .count => .count | .set _ => .set | .look => .look | .add _ => .add | .sum => .sum | .raise _ => .raise | .top => .top | .give _ => .give | .take => .take
end Sp
namespace Sp
open PySem PySem.Spec PyProof.Rows L2
inductive Drops : List HP → List HP → Prop
  | refl {R : List HP} : Drops R R
  | tl {c : HP} {r R : List HP} (h : Drops r R) : Drops (c :: r) R
theorem Drops.ent {a b : List HP} (h : Drops a b) : Ent a b := by
  induction h with
  | refl => exact Ent.rf
  | tl _ ih => exact Ent.drop.trans ih
noncomputable def Keep (ps t : List HP) : Prop := Ent ps t
theorem Keep.nil {ps : List HP} : Keep ps [] := fun H _ => Sat.nil
theorem Keep.rest {ps R : List HP} (h : Drops ps R) : Keep ps R := h.ent
theorem Keep.cons {c : HP} {ps R1 t : List HP} (h : Pick c ps R1) (k : Keep R1 t) : Keep ps (c :: t) := (Ent.perm h.perm).trans (Ent.cons k)
theorem Keep.fold {ps qs ts : List HP} (e : Ent qs ts) (k : Keep ps qs) : Keep ps ts := Ent.trans k e
theorem Ent.keep {ps t : List HP} (h : Keep ps t) : Ent ps t := h
end Sp
set_option Elab.async false
set_option linter.all false
set_option maxRecDepth 100000
set_option maxHeartbeats 4000000
namespace Sp
open PySem PySem.Spec PyProof.Rows L2
section
variable {K : PySem.W.Frag} {ps ps' R : List HP} {Φ : V → List HP → Prop} {a b : Addr} {ns ms : List Int} {i x : Int}
theorem w2_ixI (h : RdL K ps a (ns.map V.int)) (g : 0 ≤ i ∧ i < (ns.length : Int)) (k : Φ (.int (ns.getD i.toNat 0)) ps) : W2 (rIxL K) (.ref a) (.int i) ps Φ := by
  obtain ⟨j, rfl⟩ : ∃ j : Nat, i = j := ⟨i.toNat, (Int.toNat_of_nonneg g.1).symm⟩
  rw [Int.toNat_natCast] at k
  exact w2_ixL h (atI_nat (j := j) (map_at (getD_lt (by omega)))) k
theorem wst_LI {Ψ : List HP → Prop} (m : Rep (pt a (.lst (ns.map V.int))) (pt a (.lst ((ns.set i.toNat x).map V.int))) ps ps') (g : 0 ≤ i ∧ i < (ns.length : Int)) (k : Ψ ps') : Wst rSetL (.ref a) (.int i) (.int x) ps Ψ := by
  rw [List.map_set] at m
  exact wst_Lz m g.1 (by rw [List.length_map]; omega) k
theorem wm_appendI (m : Rep (pt a (.lst (ns.map V.int))) (pt a (.lst ((ns ++ [x]).map V.int))) ps ps') (l : ns.length < sizeLine) (k : Φ .non ps') : Wm rAppend (.ref a) [.int x] ps Φ := by
  rw [← snocI] at m
  exact wm_append m (by rw [List.length_map]; exact l) k
theorem wm_pop0I (m : Rep (pt a (.lst ((x :: ns).map V.int))) (pt a (.lst (ns.map V.int))) ps ps') (k : Φ (.int x) ps') : Wm rPopAt (.ref a) [.int 0] ps Φ :=
  wm_popAt (n := 0) (y := .int x) (xs := (x :: ns).map V.int) m rfl rfl (by decide) k
theorem w2_repI {n : Int} (m : pt a (.lst [.int x]) ∈ ps) (h : 0 ≤ n ∧ n ≤ 1000000) (k : ∀ p, Φ (.ref p) (pt p (.lst ((List.replicate n.toNat x).map V.int)) :: ps)) : W2 rRep (.ref a) (.int n) ps Φ := by
  refine w2_rep m (by omega) (by omega) ?_ fun p => ?_
  · have : sizeLine ≥ 1000000 := by decide
    simp only [List.length_cons, List.length_nil]; omega
  · have e : (List.replicate n.toNat [V.int x]).flatten = (List.replicate n.toNat x).map V.int := by
      rw [List.map_replicate]
      induction n.toNat with
      | zero => rfl
      | succ j ih => rw [List.replicate_succ, List.flatten_cons, ih, List.replicate_succ]; rfl
    rw [e]; exact k p
theorem w2_eqNil (h : RdL K ps a (ns.map V.int)) (g : RdL K ps b []) (k : Φ (.bl (decide (ns = []))) ps) : W2 (rEqD K) (.ref a) (.ref b) ps Φ :=
  w2_eqD (rdd_ints h) (rdd_ints (ns := []) g) (by rw [eqv_ints]; exact k)
theorem w2_neNil (h : RdL K ps a (ns.map V.int)) (g : RdL K ps b []) (k : Φ (.bl (!decide (ns = []))) ps) : W2 (rNeD K) (.ref a) (.ref b) ps Φ :=
  w2_neD (rdd_ints h) (rdd_ints (ns := []) g) (by rw [eqv_ints]; exact k)
theorem w2_ixM {α : Type} {K : PySem.W.Frag} {ps : List HP} {Φ : V → List HP → Prop} {a : Addr} {f : α → V} {xs : List α} {i : Int} (h : RdL K ps a (xs.map f)) (g : 0 ≤ i ∧ i < (xs.length : Int)) (k : ∀ x, xs[i.toNat]? = some x → Φ (f x) ps) : W2 (rIxL K) (.ref a) (.int i) ps Φ := by
  obtain ⟨j, rfl⟩ : ∃ j : Nat, i = j := ⟨i.toNat, (Int.toNat_of_nonneg g.1).symm⟩
  have hj : j < xs.length := by omega
  exact w2_ixL h (atI_nat (j := j) (map_at (List.getElem?_eq_getElem hj))) (k _ (by rw [Int.toNat_natCast]; exact List.getElem?_eq_getElem hj))
theorem cmul_if2 {c : Bool} {j : Int} : CMul j (if c = true then 1 else 0) := by
  cases c
  · exact Or.inr ⟨by decide, by decide⟩
  · exact Or.inr ⟨by decide, by decide⟩
noncomputable def topOf (l : List Int) : Int := (l.max?).getD 0
theorem topOf_eq {l : List Int} {m : Int} (h1 : m ∈ l) (h2 : ∀ y, y ∈ l → y ≤ m) : topOf l = m := by
  unfold topOf
  rw [List.max?_eq_some_iff.mpr ⟨h1, h2⟩]; rfl
theorem wc_topI (h : RdL K ps a (ns.map V.int)) (l : 0 < ns.length) (k : Φ (.int (topOf ns)) ps) : Wc (rMax K) [.ref a] ps Φ :=
  wc_max h l fun m h1 h2 => by rw [← topOf_eq h1 h2]; exact k
end
section
variable {ps : List HP} {Φ : V → List HP → Prop} {i j : Int}
theorem dec_int : decide (V.int i = V.int j) = decide (i = j) := by
  by_cases h : i = j
  · subst h; simp
  · simp [h]
theorem w2_eqI (k : Φ (.bl (decide (i = j))) ps) : W2 rEq (.int i) (.int j) ps Φ := w2_eq rfl (by rw [dec_int]; exact k)
theorem w2_neI (k : Φ (.bl (!decide (i = j))) ps) : W2 rNe (.int i) (.int j) ps Φ := w2_ne rfl (by rw [dec_int]; exact k)
end
theorem w2_eqDI {K : PySem.W.Frag} {ps : List HP} {Φ : V → List HP → Prop} {i j : Int} (k : Φ (.bl (decide (i = j))) ps) : W2 (rEqD K) (.int i) (.int j) ps Φ := w2_eqD rdd_int rdd_int (by
  have e : PyData.eqv (.int i) (.int j) = decide (i = j) := by by_cases h : i = j <;> simp [PyData.eqv, h]
  rw [e]; exact k)
theorem w2_neDI {K : PySem.W.Frag} {ps : List HP} {Φ : V → List HP → Prop} {i j : Int} (k : Φ (.bl (!decide (i = j))) ps) : W2 (rNeD K) (.int i) (.int j) ps Φ := w2_neD rdd_int rdd_int (by
  have e : PyData.eqv (.int i) (.int j) = decide (i = j) := by by_cases h : i = j <;> simp [PyData.eqv, h]
  rw [e]; exact k)
theorem iteFd {c : Prop} [Decidable c] {A B : Prop} (h : ¬ c) (k : B) : if decide c = true then A else B := iteD (fun z => absurd z h) fun _ => k
theorem iteTd {c : Prop} [Decidable c] {A B : Prop} (h : c) (k : A) : if decide c = true then A else B := iteD (fun _ => k) fun z => absurd h z
theorem iteNFd {c : Prop} [Decidable c] {A B : Prop} (h : ¬ c) (k : A) : if (!decide c) = true then A else B := iteND (fun _ => k) fun z => absurd z h
theorem iteNTd {c : Prop} [Decidable c] {A B : Prop} (h : c) (k : B) : if (!decide c) = true then A else B := iteND (fun z => absurd h z) fun _ => k
set_option genInjectivity true in
inductive Ans where
  | non | int (i : Int) | view (l : List Int)
  deriving DecidableEq
@[irreducible] noncomputable def ansC (v : V) : Ans → HP
  | .non => pur (v = .non)
  | .int i => pur (v = .int i)
  | .view l => exh fun p => grp [pur (v = .ref p), pt p (.tup (l.map V.int))]
section
variable {ts : TS} {nx : PN} {rt : V → List HP → Prop} {bk ct : PN} {σ : L2.St} {v : V} {ps R : List HP} {an : Ans} {p : Addr} {l : List Int} {i : Int}
theorem ansN : Ent R (ansC .non .non :: R) := fun H s => by unfold ansC; exact Sat.pur.mpr ⟨rfl, s⟩
theorem ansI : Ent R (ansC (.int i) (.int i) :: R) := fun H s => by unfold ansC; exact Sat.pur.mpr ⟨rfl, s⟩
theorem ansT : Ent (pt p (.tup (l.map V.int)) :: R) (ansC (.ref p) (.view l) :: R) := fun H s => by
  unfold ansC
  exact Sat.ex.mpr ⟨p, Sat.grp.mpr (Sat.pur.mpr ⟨rfl, s⟩)⟩
theorem Ws.ans (h0 : an = .non → v = .non → Ws ts nx rt bk ct σ ps) (h1 : ∀ i, an = .int i → v = .int i → Ws ts nx rt bk ct σ ps) (h2 : ∀ l p, an = .view l → v = .ref p → Ws ts nx rt bk ct σ (pt p (.tup (l.map V.int)) :: ps)) : Ws ts nx rt bk ct σ (ansC v an :: ps) := by
  cases an with
  | non => unfold ansC; exact Ws.pur fun e => h0 rfl e
  | int i => unfold ansC; exact Ws.pur fun e => h1 i rfl e
  | view l => unfold ansC; exact Ws.ex fun p => Ws.grp (Ws.pur fun e => h2 l p rfl e)
end
structure Pst where
  ones : Int
  cells : List Int
  sums : List Int
  tops : List Int
  line : List Int
noncomputable def Pst.new (m : Nat) : Pst := ⟨0, List.replicate m 0, List.replicate m 0, List.replicate m 0, []⟩
noncomputable def Pst.wf (s : Pst) (m : Nat) : Prop := s.cells.length = m ∧ s.sums.length = m ∧ s.tops.length = m
noncomputable def Pst.done (s : Pst) (h : Int) : Deed → Pst
  | .one => ⟨s.ones + 1, s.cells, s.sums, s.tops, s.line⟩
  | .set n => ⟨s.ones, s.cells.set h.toNat n, s.sums, s.tops, s.line⟩
  | .add n => ⟨s.ones, s.cells, s.sums.set h.toNat (s.sums.getD h.toNat 0 + n), s.tops, s.line⟩
  | .raise n => ⟨s.ones, s.cells, s.sums, s.tops.set h.toNat (max (s.tops.getD h.toNat 0) n), s.line⟩
  | .give n => ⟨s.ones, s.cells, s.sums, s.tops, s.line ++ [(n : Int)]⟩
  | .take => ⟨s.ones, s.cells, s.sums, s.tops, s.line.tail⟩
  | _ => s
noncomputable def Pst.ans (s : Pst) : Deed → Ans
  | .count => .int s.ones
  | .look => .view s.cells
  | .sum => .int s.sums.sum
  | .top => .int (topOf s.tops)
  | .take => match s.line with | [] => .non | x :: _ => .int x
  | _ => .non
noncomputable def Deed.changes : Deed → Prop
  | .one => True | .set _ => True | .add _ => True | .raise _ => True | .give _ => True | _ => False
noncomputable instance (d : Deed) : Decidable d.changes := by cases d <;> unfold Deed.changes <;> infer_instance
theorem Pst.new_wf (m : Nat) : (Pst.new m).wf m := by simp [Pst.wf, Pst.new]
theorem Pst.done_wf {s : Pst} {m : Nat} {h : Int} {d : Deed} (w : s.wf m) : (s.done h d).wf m := by
  cases d <;> simpa [Pst.wf, Pst.done] using w
theorem Pst.done_line {s : Pst} {h : Int} {d : Deed} : (s.done h d).line.length ≤ s.line.length + 1 := by
  cases d <;> simp [Pst.done]; omega
@[irreducible] noncomputable def plainC {K : PySem.W.Frag} {names : List Str} (I : CI K names) (a : Addr) (m : Nat) (s : Pst) : HP :=
  exh fun q : Addr × Addr × Addr × Addr => grp [obj I a [("many", .int m), ("counted", .int s.ones), ("cells", .ref q.1), ("sums", .ref q.2.1), ("tops", .ref q.2.2.1), ("line", .ref q.2.2.2)],
    pt q.1 (.lst (s.cells.map V.int)), pt q.2.1 (.lst (s.sums.map V.int)), pt q.2.2.1 (.lst (s.tops.map V.int)), pt q.2.2.2 (.lst (s.line.map V.int))]
@[irreducible] noncomputable def dictC (a : Addr) (s : Pst) : HP :=
  exh fun q : Addr × Addr × Addr × Addr => grp [pt a (.dK [(Sum.inr "ones", .int s.ones), (Sum.inr "set", .ref q.1), (Sum.inr "add", .ref q.2.1), (Sum.inr "raise", .ref q.2.2.1), (Sum.inr "line", .ref q.2.2.2)]),
    pt q.1 (.lst (s.cells.map V.int)), pt q.2.1 (.lst (s.sums.map V.int)), pt q.2.2.1 (.lst (s.tops.map V.int)), pt q.2.2.2 (.lst (s.line.map V.int))]
section
variable {K : PySem.W.Frag} {names : List Str} {I : CI K names} {ts : TS} {nx : PN} {rt : V → List HP → Prop} {bk ct : PN} {σ : L2.St} {ps R : List HP} {a q1 q2 q3 q4 : Addr} {m : Nat} {s : Pst}
theorem Ent.plainC {o : Int} {cs ss tt l : List Int} : Ent (obj I a [("many", .int m), ("counted", .int o), ("cells", .ref q1), ("sums", .ref q2), ("tops", .ref q3), ("line", .ref q4)] ::
    pt q1 (.lst (cs.map V.int)) :: pt q2 (.lst (ss.map V.int)) :: pt q3 (.lst (tt.map V.int)) :: pt q4 (.lst (l.map V.int)) :: R) (Sp.plainC I a m ⟨o, cs, ss, tt, l⟩ :: R) := fun H z => by
  unfold Sp.plainC
  exact Sat.ex.mpr ⟨(q1, q2, q3, q4), Sat.grp.mpr z⟩
theorem methPlain {f : Str} {k : List HP → Prop} (h : Sp.plainC I a m s ∈ ps) (p : (["many", "counted", "cells", "sums", "tops", "line"] : List Str) = names) (n : f ∉ names) (q : k ps) : MethG I.C f (.ref a) ps k :=
  methC h (fun H R z => by
    unfold Sp.plainC at z
    obtain ⟨x, z⟩ := Sat.ex.mp z
    obtain ⟨dx, e⟩ := (Sat.grp.mp z).obj (List.mem_cons_self ..)
    exact ⟨dx, _, e, lookup_not fun y => n (by rw [← p]; exact y)⟩) q
theorem Ent.dictC {o : Int} {cs ss tt l : List Int} : Ent (pt a (.dK [(Sum.inr "ones", .int o), (Sum.inr "set", .ref q1), (Sum.inr "add", .ref q2), (Sum.inr "raise", .ref q3), (Sum.inr "line", .ref q4)]) ::
    pt q1 (.lst (cs.map V.int)) :: pt q2 (.lst (ss.map V.int)) :: pt q3 (.lst (tt.map V.int)) :: pt q4 (.lst (l.map V.int)) :: R) (Sp.dictC a ⟨o, cs, ss, tt, l⟩ :: R) := fun H z => by
  unfold Sp.dictC
  exact Sat.ex.mpr ⟨(q1, q2, q3, q4), Sat.grp.mpr z⟩
end
end Sp
set_option Elab.async false
set_option linter.all false
set_option maxRecDepth 100000
set_option maxHeartbeats 4000000
namespace Sp
open PySem PySem.Spec PyProof.Rows L2
noncomputable def tMethS (C : Addr) (m : Str) (sp : L2.Sp) (E : L2.St → XK) (ta : TE) (t : TA) : TE := fun σ H Q => ta σ H fun x H1 => ∃ a dx fs, x = .ref a ∧ H1 a = some (.ins C dx fs) ∧ fs.lookup m = none ∧ t σ H1 fun vs H2 => sp (x :: vs) H2 Q (E σ)
noncomputable def tMakeS (C : Addr) (sp : L2.Sp) (E : L2.St → XK) (t : TA) : TE := fun σ H Q => t σ H fun vs H1 => ∀ x dx, H1 x = none → H1 dx = none → dx ≠ x → sp (.ref x :: vs) (upd (upd H1 dx (.own x)) x (.ins C dx [])) (fun v H2 => v = .non ∧ Q (.ref x) H2) (E σ)
noncomputable def rIsET (K : PySem.W.Frag) (D a : Addr) : List V → Hp → VK → Prop := fun xs H Q => ∃ (t : Addr) (cs : List V) (cvs : List Value) (b : Bool), xs = [.ref a, .ref t] ∧ SqT K H t cs ∧ (∀ us, Vals cs us → us = cvs) ∧ PySem.W.kitAny K (.ref D) cvs = some b ∧ Q (.bl b) H
section
variable {K : PySem.W.Frag} {σ : L2.St} {ps ps' R : List HP} {Φ : V → List HP → Prop} {te : TE} {tr : TA} {nx : PN} {rt : V → List HP → Prop} {bk ct : PN} {W : WX} {XP : Value → L2.St → List HP → Prop}
noncomputable def Wish (W : WX) (XP : Value → L2.St → List HP → Prop) : Prop := ∀ c σ ps, XP c σ ps → ∀ H, Sat H ps → W c none σ H
theorem we_callS {S : SX} (hW : Wish W XP) (h : Wa tr σ ps fun vs ps1 => S vs ps1 Φ fun c ps2 => XP c σ ps2) : We (tCallS (spX S) (WE W) tr) σ ps Φ := fun H Q s q => h H _ s fun vs ps1 H1 k s1 =>
  ⟨ps1, Φ, fun c ps2 => XP c σ ps2, s1, k, q, fun c ps' H' x s' => hW c σ ps' x H' s'⟩
theorem we_methS {S : SX} {C : Addr} {m : Str} (hW : Wish W XP) (h : We te σ ps fun x ps1 => MethG C m x ps1 fun ps1 => Wa tr σ ps1 fun vs ps2 => S (x :: vs) ps2 Φ fun c ps3 => XP c σ ps3) : We (tMethS C m (spX S) (WE W) te tr) σ ps Φ := fun H Q s q =>
  h H _ s fun x ps1 H1 g s1 => by
    obtain ⟨a, dx, fs, e1, e2, e3, k⟩ := g.at' s1
    exact ⟨a, dx, fs, e1, e2, e3, k H1 _ s1 fun vs ps2 H2 k2 s2 => ⟨ps2, Φ, fun c ps2 => XP c σ ps2, s2, k2, q, fun c ps' H' x s' => hW c σ ps' x H' s'⟩⟩
theorem we_makeS {S : SX} {names : List Str} {I : CI K names} (hW : Wish W XP) (h : Wa tr σ ps fun vs ps1 => ∀ x, S (.ref x :: vs) (obj I x [] :: ps1) (fun v ps2 => v = .non ∧ Φ (.ref x) ps2) fun c ps3 => XP c σ ps3) : We (tMakeS I.C (spX S) (WE W) tr) σ ps Φ := fun H Q s q =>
  h H _ s fun vs ps1 H1 k s1 x dx hx hdx ne => by
    refine ⟨_, _, _, ?_, k x, fun v ps' H' ⟨e, f⟩ s' => ⟨e, q _ _ _ f s'⟩, fun c ps' H' x s' => hW c σ ps' x H' s'⟩
    have t1 := s1.new (o := .own x) hdx
    have t2 := t1.new (a := x) (o := .ins I.C dx []) (by rw [upd_ne (Ne.symm ne)]; exact hx)
    have t4 := (t2.perm (List.Perm.swap _ _ _)).drop
    unfold Sp.obj
    exact Sat.ex.mpr ⟨dx, t4⟩
theorem wc_isE {D a e : Addr} {b : Bool} (h : PySem.W.kitOne K (.ref D) (.ref e) = some b) (k : Φ (.bl b) ps) : Wc (rIsE K D a) [.ref a, .ref e] ps Φ := fun H Q s q => ⟨_, .ref e, b, rfl, fun u r => r, h, q _ _ _ k s⟩
theorem wc_isEV {D a : Addr} {n : String} {b : Bool} (h : PySem.W.kitOne K (.ref D) (.type n) = some b) (k : Φ (.bl b) ps) : Wc (rIsE K D a) [.ref a, .ty n] ps Φ := fun H Q s q => ⟨_, .type n, b, rfl, fun u r => r, h, q _ _ _ k s⟩
theorem vals_refs : ∀ {es : List Addr} {us : List Value}, Vals (es.map V.ref) us → us = es.map Value.ref
  | [], _, r => by cases r; rfl
  | e :: es, _, r => by
    cases r with
    | cons h t => rw [vals_refs t, show _ = Value.ref e from h]; rfl
theorem wc_isET3 {D a t e1 e2 e3 : Addr} (m : pt t (.tup [.ref e1, .ref e2, .ref e3]) ∈ ps) (h1 : PySem.W.kitOne K (.ref D) (.ref e1) = some false) (h2 : PySem.W.kitOne K (.ref D) (.ref e2) = some false) (h3 : PySem.W.kitOne K (.ref D) (.ref e3) = some false) (k : Φ (.bl false) ps) : Wc (rIsET K D a) [.ref a, .ref t] ps Φ := fun H Q s q =>
  ⟨t, _, [e1, e2, e3].map Value.ref, false, rfl, SqT.of (s.get m), fun us r => vals_refs (es := [e1, e2, e3]) r, by simp [PySem.W.kitAny, h1, h2, h3], q _ _ _ k s⟩
end
theorem Wish.of {E : XK} {Ψ : Value → List HP → Prop} (hE : ∀ c ps' H', Ψ c ps' → Sat H' ps' → E c none H') : Wish (fun cls d _ H => E cls d H) fun c _ ps => Ψ c ps := fun c _ ps x H s => hE c ps H x s
end Sp
set_option Elab.async false
set_option linter.all false
set_option maxRecDepth 100000
set_option maxHeartbeats 4000000
namespace Sp
open PySem PySem.Spec PyProof.Rows L2
@[irreducible] noncomputable def tups (L : List (Addr × List V)) : HP := grp (L.map fun q => pt q.1 (.tup q.2))
section
variable {K : PySem.W.Frag} {ps R : List HP} {L : List (Addr × List V)} {a : Addr} {xs : List V}
theorem tups_nil : Ent R (tups [] :: R) := fun H s => by unfold tups; exact Sat.grp.mpr s
theorem tups_snoc : Ent (pt a (.tup xs) :: tups L :: R) (tups (L ++ [(a, xs)]) :: R) := fun H s => by
  unfold tups at *
  have s1 := Sat.grp.mp (s.perm (List.Perm.swap _ _ _))
  refine Sat.grp.mpr (s1.perm ?_)
  rw [List.map_append, List.append_assoc]
  exact .refl _
theorem rdt_tups (m : tups L ∈ ps) (h : (a, xs) ∈ L) : RdT K ps a xs := by
  unfold RdT
  intro H s
  obtain ⟨l1, l2, rfl⟩ := List.append_of_mem m
  have p : (l1 ++ tups L :: l2).Perm (tups L :: (l1 ++ l2)) := List.perm_middle
  have s2 := s.perm p
  unfold tups at s2
  exact SqT.of ((Sat.grp.mp s2).get (List.mem_append.mpr (.inl (List.mem_map.mpr ⟨(a, xs), h, rfl⟩))))
end
structure Touch where
  taken : Bool
  place : Int
  number : Int
  deriving DecidableEq
noncomputable def Touch.word (t : Touch) : Str := match t.taken with
  | true => "take"
  | false => "put"
noncomputable def Touch.vals (t : Touch) : List V := [.str t.word, .int t.place, .int t.number]
@[irreducible] noncomputable def boxC {K : PySem.W.Frag} {names : List Str} (I : CI K names) (a : Addr) (ns : List Int) (log : List Touch) : HP :=
  exh fun q : Addr × Addr × List Addr => grp [pur (q.2.2.length = log.length), obj I a [("many", .int ns.length), ("numbers", .ref q.1), ("log", .ref q.2.1)], pt q.1 (.lst (ns.map V.int)), pt q.2.1 (.lst (q.2.2.map V.ref)), tups (q.2.2.zip (log.map Touch.vals))]
section
variable {K : PySem.W.Frag} {names : List Str} {I : CI K names} {ts : TS} {nx : PN} {rt : V → List HP → Prop} {bk ct : PN} {σ : L2.St} {ps R : List HP} {a q1 q2 : Addr} {ns : List Int} {log : List Touch} {as : List Addr}
theorem Ws.boxC (h : ∀ (q1 q2 : Addr) (as : List Addr), as.length = log.length → Ws ts nx rt bk ct σ (obj I a [("many", .int ns.length), ("numbers", .ref q1), ("log", .ref q2)] :: pt q1 (.lst (ns.map V.int)) :: pt q2 (.lst (as.map V.ref)) :: tups (as.zip (log.map Touch.vals)) :: ps)) : Ws ts nx rt bk ct σ (Sp.boxC I a ns log :: ps) := by
  unfold Sp.boxC
  exact Ws.ex fun q => Ws.grp (Ws.pur fun e => h q.1 q.2.1 q.2.2 e)
theorem open_boxC {H : Hp} (pk : Pick (Sp.boxC I a ns log) ps R) (s : Sat H ps) : ∃ z : Addr × Addr × { as : List Addr // as.length = log.length }, Sat H (obj I a [("many", .int ns.length), ("numbers", .ref z.1), ("log", .ref z.2.1)] :: pt z.1 (.lst (ns.map V.int)) :: pt z.2.1 (.lst (z.2.2.1.map V.ref)) :: tups (z.2.2.1.zip (log.map Touch.vals)) :: R) := by
  have s := s.perm pk.perm
  unfold Sp.boxC at s
  obtain ⟨q, s⟩ := Sat.ex.mp s
  obtain ⟨e, s⟩ := Sat.pur.mp (Sat.grp.mp s)
  exact ⟨⟨q.1, q.2.1, q.2.2, e⟩, s⟩
theorem fldG_box {f : Str} {Φ : V → List HP → Prop} (pk : Pick (Sp.boxC I a ns log) ps R) (h : ∀ (q1 q2 : Addr) (as : List Addr), as.length = log.length → FldG K (.ref a) f (obj I a [("many", .int ns.length), ("numbers", .ref q1), ("log", .ref q2)] :: pt q1 (.lst (ns.map V.int)) :: pt q2 (.lst (as.map V.ref)) :: tups (as.zip (log.map Touch.vals)) :: R) Φ) : FldG K (.ref a) f ps Φ :=
  FldG.open (fun H s => open_boxC pk s) fun z => h z.1 z.2.1 z.2.2.1 z.2.2.2
theorem fldS_box {f : Str} {y : V} {k : List HP → Prop} (pk : Pick (Sp.boxC I a ns log) ps R) (h : ∀ (q1 q2 : Addr) (as : List Addr), as.length = log.length → FldS K (.ref a) f y (obj I a [("many", .int ns.length), ("numbers", .ref q1), ("log", .ref q2)] :: pt q1 (.lst (ns.map V.int)) :: pt q2 (.lst (as.map V.ref)) :: tups (as.zip (log.map Touch.vals)) :: R) k) : FldS K (.ref a) f y ps k :=
  FldS.open (fun H s => open_boxC pk s) fun z => h z.1 z.2.1 z.2.2.1 z.2.2.2
theorem Ent.boxC {m : Int} (e : as.length = log.length) (em : m = ns.length) : Ent (obj I a [("many", .int m), ("numbers", .ref q1), ("log", .ref q2)] :: pt q1 (.lst (ns.map V.int)) :: pt q2 (.lst (as.map V.ref)) :: tups (as.zip (log.map Touch.vals)) :: R) (Sp.boxC I a ns log :: R) := fun H z => by
  subst em
  unfold Sp.boxC
  exact Sat.ex.mpr ⟨(q1, q2, as), Sat.grp.mpr (Sat.pur.mpr ⟨e, z⟩)⟩
theorem Ent.box0 {m : Int} (em : m = ns.length) : Ent (obj I a [("many", .int m), ("numbers", .ref q1), ("log", .ref q2)] :: pt q1 (.lst (ns.map V.int)) :: pt q2 (.lst []) :: R) (Sp.boxC I a ns [] :: R) :=
  Ent.trans (Ent.cons (Ent.cons (Ent.cons tups_nil))) (Ent.boxC (as := []) rfl em)
theorem methBox {f : Str} {k : List HP → Prop} (h : Sp.boxC I a ns log ∈ ps) (p : (["many", "numbers", "log"] : List Str) = names) (n : f ∉ names) (q : k ps) : MethG I.C f (.ref a) ps k :=
  methC h (fun H R z => by
    unfold Sp.boxC at z
    obtain ⟨x, z⟩ := Sat.ex.mp z
    obtain ⟨_, z⟩ := Sat.pur.mp (Sat.grp.mp z)
    obtain ⟨dx, e⟩ := z.obj (List.mem_cons_self ..)
    exact ⟨dx, _, e, lookup_not fun y => n (by rw [← p]; exact y)⟩) q
theorem Ent.box1 {t : Touch} {m : Int} {b : Addr} (e : as.length = log.length) (em : m = ns.length) :
    Ent (obj I a [("many", .int m), ("numbers", .ref q1), ("log", .ref q2)] :: pt q1 (.lst (ns.map V.int)) :: pt q2 (.lst (as.map V.ref ++ [.ref b])) :: pt b (.tup t.vals) :: tups (as.zip (log.map Touch.vals)) :: R) (Sp.boxC I a ns (log ++ [t]) :: R) := by
  have e1 : as.map V.ref ++ [V.ref b] = (as ++ [b]).map V.ref := by rw [List.map_append]; rfl
  have e2 : as.zip (log.map Touch.vals) ++ [(b, t.vals)] = (as ++ [b]).zip ((log ++ [t]).map Touch.vals) := by
    rw [List.map_append, List.zip_append (by rw [List.length_map]; exact e)]; rfl
  rw [e1]
  refine Ent.trans ?_ (Ent.boxC (q1 := q1) (q2 := q2) (as := as ++ [b]) (m := m) (by simp [e]) em)
  refine Ent.cons (Ent.cons (Ent.cons ?_))
  rw [← e2]
  exact tups_snoc
end
end Sp
set_option Elab.async false
set_option linter.all false
set_option maxRecDepth 100000
set_option maxHeartbeats 4000000
namespace Sp
open PySem PySem.Spec PyProof.Rows L2
noncomputable def Opn {α : Type} (ps : List HP) (g : α → List HP) : Prop := ∀ H, Sat H ps → ∃ z, Sat H (g z)
section
variable {α : Type} {ps ps' R : List HP} {g : α → List HP} {te : TE} {tt : TT} {ta : TA} {ts : TS} {σ : L2.St} {nx : PN} {rt : V → List HP → Prop} {bk ct : PN} {Φ : V → List HP → Prop}
theorem Ws.opn (o : Opn ps g) (h : ∀ z, Ws ts nx rt bk ct σ (g z)) : Ws ts nx rt bk ct σ ps := fun H D s k => let ⟨z, s2⟩ := o H s; h z H D s2 k
theorem W2.opn {r : R2} {x y : V} (o : Opn ps g) (h : ∀ z, W2 r x y (g z) Φ) : W2 r x y ps Φ := fun H Q s k => let ⟨z, s2⟩ := o H s; h z H Q s2 k
theorem Wg.opn {t : TG} {x : V} {Ψ : L2.St → List HP → Prop} (o : Opn ps g) (h : ∀ z, Wg t x σ (g z) Ψ) : Wg t x σ ps Ψ := fun H Q s k => let ⟨z, s2⟩ := o H s; h z H Q s2 k
theorem OutP.opn {v : V} (o : Opn ps g) (h : ∀ z, OutP Φ v (g z)) : OutP Φ v ps := fun H s => let ⟨z, s2⟩ := o H s; h z H s2
theorem Opn.ent (e : Ent ps ps') (o : Opn ps' g) : Opn ps g := fun H s => o H (e H s)
end
noncomputable def AnsR (L : List (Addr × List V)) (v : V) : Ans → Prop
  | .non => v = .non
  | .int i => v = .int i
  | .view l => ∃ p, v = .ref p ∧ (p, l.map V.int) ∈ L
theorem AnsR.mono {L L' : List (Addr × List V)} {v : V} {an : Ans} (h : AnsR L v an) (s : ∀ x ∈ L, x ∈ L') : AnsR L' v an := by
  cases an with
  | non => exact h
  | int i => exact h
  | view l => obtain ⟨p, e, m⟩ := h; exact ⟨p, e, s _ m⟩
noncomputable abbrev More (L : List (Addr × List V)) := { L' : List (Addr × List V) // ∀ x ∈ L, x ∈ L' }
section
variable {K : PySem.W.Frag} {ps R : List HP} {L : List (Addr × List V)} {v u : V} {an bn : Ans} {a : Addr} {xs : List V} {Φ : V → List HP → Prop}
theorem ans_pool : Opn (ansC v an :: tups L :: R) fun z : { L' : More L // AnsR L'.1 v an } => tups z.1.1 :: R := fun H s => by
  cases an with
  | non =>
    unfold ansC at s
    obtain ⟨e, s⟩ := Sat.pur.mp s
    exact ⟨⟨⟨L, fun _ m => m⟩, e⟩, s⟩
  | int i =>
    unfold ansC at s
    obtain ⟨e, s⟩ := Sat.pur.mp s
    exact ⟨⟨⟨L, fun _ m => m⟩, e⟩, s⟩
  | view l =>
    unfold ansC at s
    obtain ⟨p, s⟩ := Sat.ex.mp s
    obtain ⟨e, s⟩ := Sat.pur.mp (Sat.grp.mp s)
    exact ⟨⟨⟨L ++ [(p, l.map V.int)], fun _ m => List.mem_append_left _ m⟩, p, e, List.mem_append_right _ (List.mem_cons_self ..)⟩, tups_snoc H s⟩
noncomputable def Ans.data : Ans → PyData
  | .non => .none
  | .int i => .int i
  | .view l => .tuple (l.map .int)
theorem Ans.eqv (an bn : Ans) : PyData.eqv an.data bn.data = decide (an = bn) := by
  cases an <;> cases bn <;> simp only [Ans.data]
  case int.int i j => by_cases h : i = j <;> simp [PyData.eqv, h]
  case view.view l m => rw [eqv_tints]; simp
  all_goals simp [PyData.eqv]
theorem Ans.shaped (an : Ans) : SeqAt.shaped an.data = true := by
  cases an with
  | non => rfl
  | int i => rfl
  | view l => exact shaped_tints l
theorem rdd_ansR (m : tups L ∈ ps) (h : AnsR L v an) : RdD K ps v an.data := by
  cases an with
  | non => rw [show v = .non from h]; exact rdd_non
  | int i => rw [show v = .int i from h]; exact rdd_int
  | view l =>
    obtain ⟨p, rfl, hp⟩ := h
    exact rdd_tints (rdt_tups m hp)
theorem rdd_ansC (m : ansC v an ∈ ps) : RdD K ps v an.data := by
  unfold RdD
  refine ⟨fun H s => ?_, an.shaped⟩
  obtain ⟨l1, l2, rfl⟩ := List.append_of_mem m
  have p : (l1 ++ ansC v an :: l2).Perm (ansC v an :: (l1 ++ l2)) := List.perm_middle
  have s := s.perm p
  cases an with
  | non =>
    unfold ansC at s
    rw [(Sat.pur.mp s).1]
    exact .non
  | int i =>
    unfold ansC at s
    rw [(Sat.pur.mp s).1]
    exact .int i
  | view l =>
    unfold ansC at s
    obtain ⟨p, s1⟩ := Sat.ex.mp s
    obtain ⟨e, s2⟩ := Sat.pur.mp (Sat.grp.mp s1)
    rw [e]
    exact (rdd_tints (K := K) (rdt_pt (List.mem_cons_self ..))).dp H s2
theorem w2_neA (h1 : RdD K ps v an.data) (h2 : RdD K ps u bn.data) (k : Φ (.bl (!decide (an = bn))) ps) : W2 (rNeD K) v u ps Φ := w2_neD h1 h2 (by rw [Ans.eqv]; exact k)
end
section
variable {K : PySem.W.Frag} {ps R : List HP} {L : List (Addr × List V)} {v u : V} {an bn : Ans} {a : Addr} {xs : List V} {Φ : V → List HP → Prop}
theorem w2_neL {ns ms : List Int} {b : Addr} (h1 : RdL K ps a (ns.map V.int)) (h2 : RdL K ps b (ms.map V.int)) (k : Φ (.bl (!decide (ns = ms))) ps) : W2 (rNeD K) (.ref a) (.ref b) ps Φ := w2_neD (rdd_ints h1) (rdd_ints h2) (by rw [eqv_ints]; exact k)
theorem w2_eqL {ns ms : List Int} {b : Addr} (h1 : RdL K ps a (ns.map V.int)) (h2 : RdL K ps b (ms.map V.int)) (k : Φ (.bl (decide (ns = ms))) ps) : W2 (rEqD K) (.ref a) (.ref b) ps Φ := w2_eqD (rdd_ints h1) (rdd_ints h2) (by rw [eqv_ints]; exact k)
noncomputable def upto (n : Nat) : List Int := (List.range n).map fun (i : Nat) => (i : Int)
noncomputable def LrgG (x : V) (k : Addr → Nat → Prop) : Prop := ∃ n : Nat, x = .int n ∧ n ≤ 1000000 ∧ ∀ p, k p n
theorem lrgG {n : Nat} {k : Addr → Nat → Prop} (l : n ≤ 1000000) (h : ∀ p, k p n) : LrgG (.int n) k := ⟨n, rfl, l, h⟩
theorem we_lstRg {te : TE} {σ : L2.St} (h : We te σ ps fun x ps1 => LrgG x fun p n => Φ (.ref p) (pt p (.lst ((upto n).map V.int)) :: ps1)) : We (tLstRg (tRg1 te)) σ ps Φ := fun H Q s q =>
  h H _ s fun x ps1 H1 ⟨n, e, l, k⟩ s1 => by
    refine ⟨n, e, RgOk.of_le (by omega) (by omega) (by omega) (by omega), fun p hp => ?_⟩
    have e1 : rgV 0 n = (upto n).map V.int := by
      unfold rgV upto
      rw [List.map_map]
      have : ((n : Int) - 0).toNat = n := by omega
      rw [this]
      refine List.map_congr_left fun i _ => ?_
      show V.int (0 + (i : Int)) = V.int (i : Int)
      rw [Int.zero_add]
    rw [e1]
    exact q _ _ _ (k p) (s1.new hp)
end
structure Rec where
  hand : Int
  dA : Addr
  deed : Deed
  b : Int
  e : Int
  v : V
  an : Ans
noncomputable def Rec.vals (r : Rec) : List V := [.int r.hand, .ref r.dA, .int r.b, .int r.e, r.v]
noncomputable def RecIn (L : List (Addr × List V)) (a : Addr) (r : Rec) : Prop := (a, r.vals) ∈ L ∧ (r.dA, r.deed.vals) ∈ L ∧ AnsR L r.v r.an
theorem RecIn.mono {L L' : List (Addr × List V)} {a : Addr} {r : Rec} (h : RecIn L a r) (s : ∀ x ∈ L, x ∈ L') : RecIn L' a r := ⟨s _ h.1, s _ h.2.1, h.2.2.mono s⟩
noncomputable def RecsIn (L : List (Addr × List V)) (as : List Addr) (rs : List Rec) : Prop := as.length = rs.length ∧ ∀ (i : Nat) (a : Addr) (r : Rec), as[i]? = some a → rs[i]? = some r → RecIn L a r
theorem RecsIn.mono {L L' : List (Addr × List V)} {as : List Addr} {rs : List Rec} (h : RecsIn L as rs) (s : ∀ x ∈ L, x ∈ L') : RecsIn L' as rs := ⟨h.1, fun i a r h1 h2 => (h.2 i a r h1 h2).mono s⟩
theorem RecsIn.nil {L : List (Addr × List V)} : RecsIn L [] [] := ⟨rfl, fun i a r h => by simp at h⟩
theorem RecsIn.snoc {L : List (Addr × List V)} {as : List Addr} {rs : List Rec} {a : Addr} {r : Rec} (h : RecsIn L as rs) (k : RecIn L a r) : RecsIn L (as ++ [a]) (rs ++ [r]) := ⟨by simp [h.1], fun i a' r' h1 h2 => by
  by_cases hi : i < as.length
  · rw [List.getElem?_append_left hi] at h1
    rw [List.getElem?_append_left (by rw [← h.1]; exact hi)] at h2
    exact h.2 i a' r' h1 h2
  · have hi2 : i < as.length + 1 := by
      have := (List.getElem?_eq_some_iff.mp h1).1
      simpa using this
    have e : i = as.length := by omega
    subst e
    rw [List.getElem?_append_right (Nat.le_refl _), Nat.sub_self] at h1
    rw [h.1, List.getElem?_append_right (Nat.le_refl _), Nat.sub_self] at h2
    obtain rfl := Option.some.inj h1
    obtain rfl := Option.some.inj h2
    exact k⟩
end Sp
namespace Sp
open PySem PySem.Spec PyProof.Rows L2
inductive Hist (m : Nat) : List Rec → Pst → Int → Prop
  | nil : Hist m [] (Pst.new m) (-1)
  | snoc {rs : List Rec} {s : Pst} {l : Int} {r : Rec} (h : Hist m rs s l) (e : ¬ r.e < l) (a : s.ans r.deed = r.an) : Hist m (rs ++ [r]) (s.done r.hand r.deed) (max l r.b)
theorem Hist.wf {m : Nat} {rs : List Rec} {s : Pst} {l : Int} (h : Hist m rs s l) : s.wf m ∧ s.line.length ≤ rs.length := by
  induction h with
  | nil => exact ⟨Pst.new_wf m, Nat.le_refl _⟩
  | @snoc rs s l r h e a ih =>
    refine ⟨Pst.done_wf ih.1, ?_⟩
    rw [List.length_append]
    exact Nat.le_trans Pst.done_line (by simpa using ih.2)
theorem picks2 {a b : HP} {ps R : List HP} (h : Picks [a, b] ps R) : Ent ps (a :: b :: R) := Ent.picks h
theorem mem_snoc {α : Type} {l : List α} {x : α} : x ∈ l ++ [x] := List.mem_append_right _ (List.mem_cons_self ..)
theorem more_snoc {α : Type} {l : List α} {y : α} : ∀ x ∈ l, x ∈ l ++ [y] := fun _ m => List.mem_append_left _ m
end Sp
set_option Elab.async false
set_option linter.all false
set_option maxRecDepth 100000
set_option maxHeartbeats 4000000
namespace Sp
open PySem PySem.Spec PyProof.Rows L2 RT
noncomputable def tLstRev (K : PySem.W.Frag) (te : TE) : TE := fun σ H Q => te σ H fun v H1 => ∃ (a : Addr) (xs : List V), v = .ref a ∧ SqL K H1 a xs ∧ ∀ q, H1 q = none → Q (.ref q) (upd H1 q (.lst xs.reverse))
end Sp
namespace Sp
open PySem PySem.Spec PyProof.Rows L2
section
variable {K : PySem.W.Frag} {te : TE} {σ : L2.St} {ps R : List HP} {Φ : V → List HP → Prop} {a b : Addr} {xs ys : List V} {ns ms : List Int}
noncomputable def RevG (K : PySem.W.Frag) (v : V) (ps : List HP) (k : List Int → Prop) : Prop := ∃ (a : Addr) (ns : List Int), v = .ref a ∧ RdL K ps a (ns.map V.int) ∧ k ns
theorem revG {k : List Int → Prop} (h : RdL K ps a (ns.map V.int)) (q : k ns) : RevG K (.ref a) ps k := ⟨a, ns, rfl, h, q⟩
theorem we_lstRev (h : We te σ ps fun x ps1 => RevG K x ps1 fun ns => ∀ p, Φ (.ref p) (pt p (.lst (ns.reverse.map V.int)) :: ps1)) : We (tLstRev K te) σ ps Φ := fun H Q s q =>
  h H _ s fun x ps1 H1 ⟨a, ns, e, rd, k⟩ s1 => ⟨a, ns.map V.int, e, rd.at' s1, fun p hp => by
    rw [← List.map_reverse]
    exact q _ _ _ (k p) (s1.new hp)⟩
theorem w2_catI (h1 : pt a (.lst (ns.map V.int)) ∈ ps) (h2 : pt b (.lst (ms.map V.int)) ∈ ps) (l : ns.length + ms.length ≤ 1000000) (k : ∀ p, Φ (.ref p) (pt p (.lst ((ns ++ ms).map V.int)) :: ps)) : W2 rCat (.ref a) (.ref b) ps Φ :=
  w2_cat h1 h2 (by rw [List.length_map, List.length_map]; exact Nat.le_trans l (by decide)) fun p => by rw [← List.map_append]; exact k p
theorem wsl_tail (h : RdL K ps a (ns.map V.int)) (k : ∀ p, Φ (.ref p) (pt p (.lst (ns.tail.map V.int)) :: ps)) : Wsl (rSlL K) (.ref a) (some 1) none ps Φ := wsl_L h fun p => by
  have e : cutV (ns.map V.int) (some 1) none = ns.tail.map V.int := by
    cases ns with
    | nil => rfl
    | cons x r =>
      unfold cutV
      have e1 : HT.sIx ((x :: r).map V.int).length 0 (some 1) = 1 := by
        simp [HT.sIx]
      have e2 : HT.sIx ((x :: r).map V.int).length ((x :: r).map V.int).length none = ((x :: r).map V.int).length := rfl
      rw [e1, e2]
      simp only [List.map_cons, List.drop_succ_cons, List.drop_zero, List.length_cons, List.tail_cons, Nat.add_sub_cancel, List.length_map]
      exact List.take_of_length_le (by rw [List.length_map]; exact Nat.le_refl _)
  rw [e]; exact k p
end
end Sp
namespace Sp
open PySem PySem.Spec PyProof.Rows L2
section
variable {ps : List HP} {Φ : V → List HP → Prop} {a b : Addr} {ns : List Int} {x : Int}
theorem w2_catIs (h1 : pt a (.lst (ns.map V.int)) ∈ ps) (h2 : pt b (.lst [.int x]) ∈ ps) (l : ns.length ≤ 1000000) (k : ∀ p, Φ (.ref p) (pt p (.lst ((ns ++ [x]).map V.int)) :: ps)) : W2 rCat (.ref a) (.ref b) ps Φ :=
  w2_cat h1 h2 (by rw [List.length_map]; exact Nat.le_trans (m := 1000001) (by simp; omega) (by decide)) fun p => by rw [snocI]; exact k p
theorem w2_catsI (h1 : pt a (.lst [.int x]) ∈ ps) (h2 : pt b (.lst (ns.map V.int)) ∈ ps) (l : ns.length ≤ 1000000) (k : ∀ p, Φ (.ref p) (pt p (.lst ((x :: ns).map V.int)) :: ps)) : W2 rCat (.ref a) (.ref b) ps Φ :=
  w2_cat h1 h2 (by rw [List.length_map]; exact Nat.le_trans (m := 1000001) (by simp; omega) (by decide)) fun p => k p
end
end Sp
set_option Elab.async false
set_option linter.all false
set_option maxRecDepth 100000
set_option maxHeartbeats 4000000
namespace Sp
open PySem PySem.Spec PyProof.Rows L2
noncomputable def Deed.data : Deed → PyData
  | .one => .tuple [.str "one"] | .count => .tuple [.str "count"] | .set n => .tuple [.str "set", .int n] | .look => .tuple [.str "look"] | .add n => .tuple [.str "add", .int n] | .sum => .tuple [.str "sum"]
  | .raise n => .tuple [.str "raise", .int n] | .top => .tuple [.str "top"] | .give n => .tuple [.str "give", .int n] | .take => .tuple [.str "take"]
noncomputable def Rec.data (r : Rec) : PyData := .tuple [.int r.hand, r.deed.data, .int r.b, .int r.e, r.an.data]
section
variable {K : PySem.W.Frag} {ps : List HP} {L : List (Addr × List V)} {a p : Addr} {d : Deed} {r : Rec} {as : List Addr} {rs : List Rec}
theorem dp_tup {xs : List V} {ds : List PyData} (h : RdT K ps a xs) (g : RdDs K ps xs ds) : ∀ H, Sat H ps → Dp K H (.ref a) (.tuple ds) := fun H s => .tup (h.at' s) (g.all s)
theorem dp_deed (m : tups L ∈ ps) (h : (a, d.vals) ∈ L) : ∀ H, Sat H ps → Dp K H (.ref a) d.data := by
  cases d <;> exact dp_tup (rdt_tups m h) (by first | exact .cons (fun _ _ => .str _) .nil | exact .cons (fun _ _ => .str _) (.cons (fun _ _ => .int _) .nil))
theorem Deed.canLay (d : Deed) : PyData.canLay0 d.data = true := by cases d <;> simp [Deed.data, PyData.canLay0, PyData.canLayAll0] <;> decide +kernel
theorem Deed.depth (d : Deed) : PyData.depth d.data ≤ 2 := by cases d <;> simp [Deed.data, PyData.depth, PyData.depthAll]
theorem Ans.depth (an : Ans) : PyData.depth an.data ≤ 2 := by
  cases an with
  | non => simp [Ans.data, PyData.depth]
  | int i => simp [Ans.data, PyData.depth]
  | view l => have := depthAll_ints l; simp only [Ans.data, PyData.depth]; omega
theorem Rec.depth (r : Rec) : PyData.depth r.data ≤ 4 := by
  have h1 := r.deed.depth
  have h2 := r.an.depth
  simp only [Rec.data, PyData.depth, PyData.depthAll]
  omega
end
end Sp
namespace Sp
open PySem L2
theorem RecsIn.set {L : List (Addr × List V)} {as : List Addr} {rs : List Rec} {a : Addr} {r : Rec} {i : Nat} (h : RecsIn L as rs) (hi : i < as.length) (k : RecIn L a r) : RecsIn L (as.set i a) (rs.set i r) := ⟨by simp [h.1], fun j a' r' h1 h2 => by
  by_cases e : i = j
  · subst e
    rw [List.getElem?_set_self hi] at h1
    rw [List.getElem?_set_self (by rw [← h.1]; exact hi)] at h2
    obtain rfl := Option.some.inj h1
    obtain rfl := Option.some.inj h2
    exact k
  · rw [List.getElem?_set_ne e] at h1 h2
    exact h.2 j a' r' h1 h2⟩
end Sp
set_option Elab.async false
set_option linter.all false
set_option maxRecDepth 100000
set_option maxHeartbeats 4000000
namespace Sp
open PySem PySem.Spec PyProof.Rows L2 ClX
noncomputable def tClsFn (C : Addr) (sp : L2.Sp) (E : XK) (ta : TE) (t : TA) : TE := fun σ H Q => ta σ H fun x H1 => x = .ref C ∧ t σ H1 fun vs H2 => sp vs H2 Q E
theorem pe_clsfn {X : Cx} {CX : CXT} {k : Nat} {f C : Addr} {mc : Value} {fd : FuncData} {ps : List Str} {sp : L2.Sp} {E : XK} {m : Str} {pos apos : Pos} {e o : Expr} {es : List Expr} {ta : TE} {t : TA} {pl : Sem Bool} (he : PE X o ta) (r : CRead X.K C mc)
    (at_ : PySem.W.findCls X.K (.ref C) mc m = some (.val (.ref f))) (kk : PySem.W.keepIn X.K (.ref f) = true)
    (F : FnOk X.prog X.w X.K X.mg X.base CX k f fd ps sp) (hr : Room k X.A) (hb : Binds X.K fd ps []) (hx : Passes CX X E) (ha : PA X (e :: es) t)
    (hst : starEach (e :: es) X.env = (false, eval e X.env) :: starEach es X.env := by rfl) (hpl : (backTo pos (starEach es X.env)).any (·.1) = false := by rfl)
    (ht : eval (.Call (.Attribute o m apos) (e :: es) [] pos) X.env = (do
      let ov ← eval o X.env
      standAt apos.atName
      let (f, first) ← holding [ov] (getMethod ov m pl)
      callWith pos f first (backTo pos (starEach (e :: es) X.env)) (backToKw pos (keywordEach [] X.env))) := by rfl) :
    PE X (.Call (.Attribute o m apos) (e :: es) [] pos) (tClsFn C sp E ta t) := by
  refine ⟨fun pins s σ H Q I h => ?_⟩
  refine PySem.W.methodCall_KW (pl := pl) (thn (he.run pins s σ H _ I h) fun u s1 ⟨x, H1, I1, rx, ex, q⟩ => ?_) ht
  subst ex
  obtain rfl : u = Value.ref C := rx
  refine PySem.W.method_cls I1.kIn r.ga (PySem.W.cls_value I1.kIn r.rd at_ (handed_of (v := .ref f) rfl) ?_)
  have I2 := I1.tok (s1.toks + 1)
  refine PySem.W.callWith_K (first := []) (h₀ := X.base) I2.ok.mod.kin kk (thn (ha.run pos pins _ σ H1 _ I2 q) fun us s2 ⟨vs, H2, I3, rv, q2⟩ => ⟨I3.kIn, ?_⟩) hst hpl
  have e1 : vs ++ [] = vs := List.append_nil vs
  exact run_fn (us := us) (vs := vs) (ds := []) (dvs := []) F hr hb .nil hx I3 rv (by rw [e1]; exact q2)
end Sp
namespace Sp
open PySem L2
section
variable {te : TE} {tr : TA} {σ : L2.St} {ps : List HP} {Φ : V → List HP → Prop} {C : Addr} {E : XK}
noncomputable def ClsG (C : Addr) (x : V) (k : Prop) : Prop := x = .ref C ∧ k
theorem clsG {k : Prop} (h : k) : ClsG C (.ref C) k := ⟨rfl, h⟩
theorem we_clsfn {S : SP} (h : We te σ ps fun x ps1 => ClsG C x (Wa tr σ ps1 fun vs ps2 => S vs ps2 Φ)) : We (tClsFn C (spS S) E te tr) σ ps Φ := fun H Q s q =>
  h H _ s fun x ps1 H1 ⟨e, k⟩ s1 => ⟨e, k H1 _ s1 fun vs ps2 H2 k2 s2 => ⟨ps2, Φ, s2, k2, q⟩⟩
end
end Sp
set_option Elab.async false
set_option linter.all false
set_option maxRecDepth 100000
set_option maxHeartbeats 4000000
namespace Mir
open Sp PySem L2
noncomputable def un (n : Int) : List Int := if h : 1 < n then (n % 1000000) :: un (n / 1000000) else []
termination_by n.toNat
decreasing_by omega
noncomputable def pkN : List Int → Int
  | [] => 1
  | x :: r => x + 1000000 * pkN r
noncomputable abbrev Lent := List ((Nat × Int) × Int)
structure ScanS where
  ahead : Option (List Int)
  row : List Int
  moved : List Nat
  upto : Int
  view : Option (List Int)
  moment : Int
noncomputable def ScanS.new : ScanS := ⟨none, [], [], 0, none, 0⟩
structure MemS where
  ones : Int
  pS : Int
  pA : Int
  pR : Int
  cS : Int
  cA : Int
  cR : Int
  gifts : List Int
  took : List Int
noncomputable def MemS.new (m : Nat) : MemS := ⟨0, 0, 0, 0, 0, 0, 0, [], List.replicate m 0⟩
inductive WX where
  | one
  | count (row : List Int)
  | look (s : ScanS)
  | change (s : ScanS)
  | give (read : Nat)
  | take (rows : List (List Int)) (again : Bool)
inductive WC where
  | one | count | look | change | give | take
  deriving DecidableEq
noncomputable def WX.cls : WX → WC
  | .one => .one | .count _ => .count | .look _ => .look | .change _ => .change | .give _ => .give | .take _ _ => .take
structure WorkS where
  deed : Deed
  hand : Nat
  ans : Ans
  moment : Int
  stamp : Int
  giver : Nat
  nth : Int
  x : WX
structure DoneS where
  work : WorkS
  b : Nat
  e : Nat
structure HallS where
  many : Nat
  plans : List (List Deed)
  boxes : List Int
  log : List Touch
  mems : List MemS
  underway : List (Option WorkS)
  begins : List Nat
  own : List Nat
  hands : List Nat
  lent : Lent
  ended : List DoneS
noncomputable def cellOf (n : Int) : Int := if n = 0 then 0 else (un n).getD 1 0
noncomputable def changedF (many : Nat) (row ahead : List Int) : List Nat := (List.range many).filter fun k => row.getD k 0 ≠ ahead.getD k 0
noncomputable def lentF (lent : Lent) (p : Nat) (n : Int) : Int := (lent.lookup (p, n)).getD 0
noncomputable def firstMoved : List Nat → List Nat → Option Nat × List Nat
  | [], mv => (none, mv)
  | k :: r, mv => if k ∈ mv then (some k, mv) else firstMoved r (mv ++ [k])
noncomputable def lookedF (first many : Nat) (lent : Lent) (ah : List Int) (s : ScanS) : ScanS × Bool :=
  match changedF many s.row ah with
  | [] => ({ s with view := some (s.row.map cellOf), moment := s.upto }, true)
  | ch => match firstMoved ch s.moved with
    | (some k, mv) => ({ s with moved := mv, view := some ((un (s.row.getD k 0)).drop 2), moment := lentF lent (first + k) ((un (s.row.getD k 0)).getD 0 0) }, true)
    | (none, mv) => ({ s with moved := mv }, false)
noncomputable def scanF (first many : Nat) (n : Int) (clock : Nat) (lent : Lent) (s : ScanS) : ScanS × Bool :=
  let s1 := { s with row := s.row ++ [n] }
  if s1.row.length < many then (s1, false)
  else
    let next := fun (s2 : ScanS) => ({ s2 with ahead := some s2.row, row := [], upto := clock } : ScanS)
    match s.ahead with
    | none => (next s1, false)
    | some ah => match lookedF first many lent ah s1 with
      | (s2, true) => (s2, true)
      | (s2, false) => (next s2, false)
noncomputable def thing : Deed → Nat
  | .one => 0 | .count => 0 | .set _ => 1 | .look => 1 | .add _ => 2 | .sum => 2 | .raise _ => 3 | .top => 3 | .give _ => 4 | .take => 4
noncomputable def wxNew : Deed → WX
  | .one => .one | .count => .count [] | .give _ => .give 0 | .take => .take [] false | .look => .look .new | .sum => .look .new | .top => .look .new | _ => .change .new
noncomputable def workNew (d : Deed) (h : Nat) : WorkS := ⟨d, h, .non, 0, 0, 0, 0, wxNew d⟩
structure StepR where
  touch : Touch
  mem : MemS
  lent : Lent
  work : WorkS
  fin : Bool
noncomputable def lastStamp (row : List Int) : List Int := if 2 ≤ row.length then [row.getD (row.length - 2) 0] else []
noncomputable def leastF (f : Nat → Int) : Nat → List Nat → Nat
  | k, [] => k
  | k, j :: r => leastF f (if f j < f k then j else k) r
noncomputable def lentPut (lent : Lent) (p : Nat) (n v : Int) : Lent := lent ++ [((p, n), v)]
noncomputable def changeMem (m : MemS) : Deed → MemS × Int × Int
  | .set n => ({ m with cS := n, pS := m.pS + 1 }, m.pS + 1, n)
  | .add n => ({ m with cA := n + m.cA, pA := m.pA + 1 }, m.pA + 1, n + m.cA)
  | .raise n => ({ m with cR := max n m.cR, pR := m.pR + 1 }, m.pR + 1, max n m.cR)
  | _ => (m, 0, 0)
noncomputable def lookAns (view : List Int) : Deed → Ans
  | .sum => .int view.sum
  | .top => .int (topOf view)
  | _ => .view view
noncomputable def giveN : Deed → Int
  | .give n => n
  | _ => 0
noncomputable def leftF (many : Nat) (rows : List (List Int)) (took : List Int) : List Nat := (List.range many).filter fun k => 2 * took.getD k 0 < ((rows.getD k []).length : Int)
noncomputable def rankF (rows : List (List Int)) (took : List Int) (k : Nat) : Int := (rows.getD k []).getD (2 * took.getD k 0).toNat 0
noncomputable def tkT (boxes : List Int) (p : Nat) : Touch := ⟨true, (p : Int), boxes.getD p 0⟩
noncomputable def ptT (p : Nat) (n : Int) : Touch := ⟨false, (p : Int), n⟩
noncomputable def stepF (many clock : Nat) (boxes : List Int) (lent : Lent) (m : MemS) (w : WorkS) : StepR :=
  let first := thing w.deed * many
  match w.x with
  | .one => ⟨ptT (first + w.hand) (m.ones + 1), { m with ones := m.ones + 1 }, lent, { w with moment := clock }, true⟩
  | .count row =>
    let row' := row ++ [boxes.getD (first + row.length) 0]
    ⟨tkT boxes (first + row.length), m, lent, { w with x := .count row', ans := .int row'.sum }, row'.length = many⟩
  | .look s =>
    match scanF first many (boxes.getD (first + s.row.length) 0) clock lent s with
    | (s', true) => ⟨tkT boxes (first + s.row.length), m, lent, { w with x := .look s', moment := s'.moment, ans := lookAns (s'.view.getD []) w.deed }, true⟩
    | (s', false) => ⟨tkT boxes (first + s.row.length), m, lent, { w with x := .look s' }, false⟩
  | .change s => match s.view with
    | none => ⟨tkT boxes (first + s.row.length), m, lent, { w with x := .change (scanF first many (boxes.getD (first + s.row.length) 0) clock lent s).1 }, false⟩
    | some view =>
      let (m', n, c) := changeMem m w.deed
      ⟨ptT (first + w.hand) (pkN ([n, c] ++ view)), m', lentPut lent (first + w.hand) n s.moment, { w with moment := clock }, true⟩
  | .give read =>
    if read < many then
      ⟨tkT boxes (first + read), m, lent, { w with x := .give (read + 1), stamp := topOf ([w.stamp] ++ lastStamp (un (boxes.getD (first + read) 0))) }, false⟩
    else
      let g := m.gifts ++ [w.stamp + 1, giveN w.deed]
      ⟨ptT (first + w.hand) (pkN g), { m with gifts := g }, lent, { w with stamp := w.stamp + 1, moment := clock }, true⟩
  | .take rows again =>
    let rows' := rows ++ [un (boxes.getD (first + rows.length) 0)]
    let t := tkT boxes (first + rows.length)
    if rows'.length < many then ⟨t, m, lent, { w with x := .take rows' again }, false⟩
    else match leftF many rows' m.took with
      | [] => ⟨t, m, lent, { w with x := .take rows' again }, true⟩
      | k :: r =>
        if again = false then ⟨t, m, lent, { w with x := .take [] true }, false⟩
        else
          let g := leastF (rankF rows' m.took) k r
          let nth := m.took.getD g 0
          ⟨t, { m with took := m.took.set g (nth + 1) }, lent, { w with x := .take rows' again, giver := g, nth := nth, ans := .int ((rows'.getD g []).getD (2 * nth + 1).toNat 0), moment := clock }, true⟩
noncomputable def HallS.new (plans : List (List Deed)) : HallS :=
  let m := plans.length
  ⟨m, plans, List.replicate (5 * m) 0, [], List.replicate m (.new m), List.replicate m none, List.replicate m 0, List.replicate m 0, [], [], []⟩
noncomputable def HallS.begun (S : HallS) (h : Nat) : Option (HallS × WorkS) := match S.underway.getD h none with
  | some w => some (S, w)
  | none => match S.plans.getD h [] with
    | [] => none
    | d :: r => some ({ S with plans := S.plans.set h r, underway := S.underway.set h (some (workNew d h)), begins := S.begins.set h S.hands.length, own := S.own.set h 0 }, workNew d h)
noncomputable def HallS.putT (S : HallS) (t : Touch) : List Int := if t.taken then S.boxes else S.boxes.set t.place.toNat t.number
noncomputable def HallS.run (S : HallS) (h : Nat) (w : WorkS) : HallS :=
  let r := stepF S.many S.hands.length S.boxes S.lent (S.mems.getD h (.new S.many)) w
  let S' := { S with hands := S.hands ++ [h], boxes := S.putT r.touch, log := S.log ++ [r.touch], mems := S.mems.set h r.mem, lent := r.lent }
  match r.fin with
  | true => { S' with ended := S.ended ++ [⟨r.work, S.begins.getD h 0, S.hands.length⟩], underway := S.underway.set h none, own := S.own.set h 0 }
  | false => { S' with underway := S.underway.set h (some r.work), own := S.own.set h (S.own.getD h 0 + 1) }
noncomputable def HallS.step (S : HallS) (h : Nat) : HallS × Bool := match S.begun h with
  | none => (S, false)
  | some (S1, w) => (S1.run h w, true)
noncomputable def HallS.weave : HallS → List Nat → HallS × Nat
  | S, [] => (S, 0)
  | S, h :: r => let S1 := S.step h; let S2 := S1.1.weave r; (S2.1, (if S1.2 then 1 else 0) + S2.2)
noncomputable def inB (n : Int) : Prop := 0 ≤ n ∧ n < 1000000
noncomputable def ScanOk (first many : Nat) (lent : Lent) (n : Int) (s : ScanS) : Prop :=
  s.row.length < many ∧ s.moved.length ≤ 1000 ∧ (∀ x ∈ s.row ++ [n], (x = 0 ∨ 2 ≤ (un x).length) ∧ (un x).length ≤ 1000) ∧
  ∀ ah, s.ahead = some ah → ah.length = many ∧ (s.row.length + 1 = many → ∀ k mv, firstMoved (changedF many (s.row ++ [n]) ah) s.moved = (some k, mv) →
    3 ≤ (un ((s.row ++ [n]).getD k 0)).length ∧ (lent.lookup (first + k, (un ((s.row ++ [n]).getD k 0)).getD 0 0)).isSome = true)
noncomputable def StepOk (many : Nat) (boxes : List Int) (lent : Lent) (m : MemS) (w : WorkS) : Prop :=
  let first := thing w.deed * many
  match w.x with
  | .one => w.deed = .one
  | .count row => w.deed = .count ∧ row.length < many
  | .look s => (w.deed = .look ∨ w.deed = .sum ∨ w.deed = .top) ∧ ScanOk first many lent (boxes.getD (first + s.row.length) 0) s
  | .change s => (∃ n, w.deed = .set n ∨ w.deed = .add n ∨ w.deed = .raise n) ∧ match s.view with
    | none => ScanOk first many lent (boxes.getD (first + s.row.length) 0) s
    | some view => (∀ x ∈ [(changeMem m w.deed).2.1, (changeMem m w.deed).2.2] ++ view, inB x) ∧ view.length ≤ 1000 ∧ lent.lookup (first + w.hand, (changeMem m w.deed).2.1) = none
  | .give read => (∃ n, w.deed = .give n) ∧ (read < many → (un (boxes.getD (first + read) 0)).length ≤ 1000) ∧ (many ≤ read → (∀ x ∈ m.gifts ++ [w.stamp + 1, giveN w.deed], inB x) ∧ m.gifts.length ≤ 100000)
  | .take rows _ => w.deed = .take ∧ rows.length < many ∧ m.took.length = many ∧ (∀ t ∈ m.took, 0 ≤ t) ∧ ∀ r ∈ rows ++ [un (boxes.getD (first + rows.length) 0)], r.length % 2 = 0 ∧ r.length ≤ 1000
end Mir
namespace Mir
open Sp
structure Wf (S : HallS) : Prop where
  m : 1 ≤ S.many ∧ S.many ≤ 100
  plans : S.plans.length = S.many
  boxes : S.boxes.length = 5 * S.many
  mems : S.mems.length = S.many
  under : S.underway.length = S.many
  begins : S.begins.length = S.many
  own : S.own.length = S.many
  hands : S.hands.length = S.log.length
  few : S.log.length ≤ 90000 ∧ S.lent.length ≤ 90000 ∧ S.ended.length ≤ 90000 ∧ ∀ p ∈ S.plans, p.length ≤ 90000
  hand : ∀ h w, S.underway.getD h none = some w → w.hand < S.many
noncomputable def StepOkH (S : HallS) (h : Nat) : Prop := ∀ S1 w, S.begun h = some (S1, w) → StepOk S1.many S1.boxes S1.lent (S1.mems.getD h (.new S1.many)) w
end Mir
namespace Mir
open Sp
structure BegunOf (S : HallS) (h : Nat) (S1 : HallS) (w : WorkS) : Prop where
  many : S1.many = S.many
  boxes : S1.boxes = S.boxes
  log : S1.log = S.log
  mems : S1.mems = S.mems
  hands : S1.hands = S.hands
  lent : S1.lent = S.lent
  ended : S1.ended = S.ended
  plans : S1.plans.length = S.plans.length
  begins : S1.begins.length = S.begins.length
  own : S1.own.length = S.own.length
  under : S1.underway.length = S.underway.length
  here : S1.underway.getD h none = some w
  other : ∀ k, k ≠ h → S1.underway.getD k none = S.underway.getD k none
  hand : w.hand = h ∨ S.underway.getD h none = some w
theorem getD_set_ne' {α : Type} {xs : List α} {x d : α} {i j : Nat} (h : i ≠ j) : (xs.set i x).getD j d = xs.getD j d := by
  rw [List.getD_eq_getElem?_getD, List.getD_eq_getElem?_getD, List.getElem?_set_ne h]
theorem getD_set_eq' {α : Type} {xs : List α} {x d : α} {i : Nat} (h : i < xs.length) : (xs.set i x).getD i d = x := by
  rw [List.getD_eq_getElem?_getD, List.getElem?_set_self h]; rfl
theorem begunOf {S S1 : HallS} {h : Nat} {w : WorkS} (e : S.begun h = some (S1, w)) (hh : h < S.underway.length) : BegunOf S h S1 w := by
  unfold HallS.begun at e
  split at e
  · rename_i w' hw
    cases e
    exact ⟨rfl, rfl, rfl, rfl, rfl, rfl, rfl, rfl, rfl, rfl, rfl, hw, fun _ _ => rfl, .inr hw⟩
  · split at e
    · cases e
    · cases e
      exact ⟨rfl, rfl, rfl, rfl, rfl, rfl, rfl, List.length_set, List.length_set, List.length_set, List.length_set, getD_set_eq' hh, fun k hk => getD_set_ne' (Ne.symm hk), .inl rfl⟩
end Mir
namespace Mir
open Sp
noncomputable instance : Inhabited WorkS := ⟨workNew .one 0⟩
noncomputable instance : Inhabited DoneS := ⟨⟨default, 0, 0⟩⟩
end Mir
namespace Mir
open Sp
theorem stepF_deed {many clock : Nat} {boxes : List Int} {lent : Lent} {m : MemS} {w : WorkS} : (stepF many clock boxes lent m w).work.deed = w.deed ∧ (stepF many clock boxes lent m w).work.hand = w.hand := by
  unfold stepF
  dsimp only
  split
  · exact ⟨rfl, rfl⟩
  · exact ⟨rfl, rfl⟩
  · split <;> exact ⟨rfl, rfl⟩
  · split <;> exact ⟨rfl, rfl⟩
  · split <;> exact ⟨rfl, rfl⟩
  · split
    · exact ⟨rfl, rfl⟩
    · split
      · exact ⟨rfl, rfl⟩
      · split <;> exact ⟨rfl, rfl⟩
end Mir
set_option Elab.async false
set_option linter.all false
set_option maxRecDepth 100000
set_option maxHeartbeats 4000000
namespace Mir
open Sp
theorem un_step {n : Int} (h : 1 < n) : un n = (n % 1000000) :: un (n / 1000000) := by rw [un, dif_pos h]
theorem un_end {n : Int} (h : ¬ 1 < n) : un n = [] := by rw [un, dif_neg h]
theorem pkN_pos : ∀ {l : List Int}, (∀ x ∈ l, inB x) → 1 ≤ pkN l
  | [], _ => Int.le_refl 1
  | x :: r, h => by
    have h1 := h x (List.mem_cons_self ..)
    have h2 := pkN_pos (l := r) fun y m => h y (List.mem_cons_of_mem _ m)
    simp only [pkN, inB] at *; omega
theorem un_pkN : ∀ {l : List Int}, (∀ x ∈ l, inB x) → un (pkN l) = l
  | [], _ => un_end (by decide)
  | x :: r, h => by
    have h1 := h x (List.mem_cons_self ..)
    have hr : ∀ y ∈ r, inB y := fun y m => h y (List.mem_cons_of_mem _ m)
    have h2 := pkN_pos hr
    have e := un_pkN hr
    simp only [inB] at h1
    rw [un_step (by simp only [pkN]; omega)]
    have e1 : pkN (x :: r) % 1000000 = x := by simp only [pkN]; omega
    have e2 : pkN (x :: r) / 1000000 = pkN r := by simp only [pkN]; omega
    rw [e1, e2, e]
theorem un_zero : un 0 = [] := un_end (by decide)
theorem pkN_gt {x : Int} {r : List Int} (h : ∀ y ∈ x :: r, inB y) : 1 < pkN (x :: r) := by
  have h1 := h x (List.mem_cons_self ..)
  have h2 := pkN_pos (l := r) fun y m => h y (List.mem_cons_of_mem _ m)
  simp only [pkN, inB] at *; omega
noncomputable def isPut (t : Touch) (p : Nat) : Bool := !t.taken && decide (t.place = (p : Int))
noncomputable def bxL (l : List Touch) (p : Nat) : Int := l.foldl (fun v t => if isPut t p then t.number else v) 0
noncomputable def bx (l : List Touch) (p t : Nat) : Int := bxL (l.take t) p
variable {l x : List Touch} {p q s t : Nat} {a : Touch}
end Mir
set_option Elab.async false
set_option linter.all false
set_option maxRecDepth 100000
set_option maxHeartbeats 4000000
namespace Mir
open Sp
noncomputable def isCh (th k : Nat) (d : DoneS) : Bool := decide d.work.deed.changes && (decide (thing d.work.deed = th) && decide (d.work.hand = k))
noncomputable def E (es : List DoneS) (th k u : Nat) : List DoneS := es.filter fun d => isCh th k d && decide (d.e < u)
noncomputable def updN (c : Int) : Deed → Int
  | .set n => n
  | .add n => n + c
  | .raise n => max n c
  | _ => c
noncomputable def cellF (l : List DoneS) : Int := l.foldl (fun c d => updN c d.work.deed) 0
noncomputable def viewOf (d : DoneS) : List Int := match d.work.x with
  | .change s => s.view.getD []
  | _ => []
noncomputable def momOf (d : DoneS) : Int := match d.work.x with
  | .change s => s.moment
  | _ => 0
noncomputable def flat (l : List DoneS) : List Int := l.flatMap fun d => [d.work.stamp, giveN d.work.deed]
noncomputable def rowP (l : List DoneS) : List Int := match l.getLast? with
  | none => []
  | some d => [(l.length : Int), cellF l] ++ viewOf d
noncomputable def rowV (th : Nat) (l : List DoneS) : List Int := if th = 4 then flat l else rowP l
noncomputable def val (th : Nat) (l : List DoneS) : Int := if th = 0 then l.length else if l = [] then 0 else pkN (rowV th l)
theorem isCh_iff {th k : Nat} {d : DoneS} : isCh th k d = true ↔ d.work.deed.changes ∧ thing d.work.deed = th ∧ d.work.hand = k := by simp [isCh]
theorem filter_none {α : Type} {p : α → Bool} {l : List α} (h : ∀ x ∈ l, p x = false) : l.filter p = [] := by
  rw [List.filter_eq_nil_iff]
  intro x hx
  rw [h x hx]; exact Bool.false_ne_true
section
variable {es : List DoneS} {d : DoneS} {th k u v t : Nat}
theorem E_app (h : u ≤ d.e) : E (es ++ [d]) th k u = E es th k u := by
  unfold E
  rw [List.filter_append]
  have : [d].filter (fun d => isCh th k d && decide (d.e < u)) = [] := by
    refine filter_none fun x hx => ?_
    obtain rfl := List.mem_singleton.mp hx
    rw [decide_eq_false (by omega)]; simp
  rw [this, List.append_nil]
theorem E_over (h : ∀ d ∈ es, d.e < u) (hv : u ≤ v) : E es th k v = E es th k u := by
  unfold E
  refine List.filter_congr fun d hd => ?_
  have := h d hd
  rw [decide_eq_true (show d.e < v by omega), decide_eq_true this]
theorem E_snoc (h : ∀ d ∈ es, d.e < t) (hd : d.e = t) (hu : t < u) : E (es ++ [d]) th k u = E es th k t ++ if isCh th k d then [d] else [] := by
  have e0 : E es th k u = E es th k t := E_over h (by omega)
  rw [← e0]
  unfold E
  rw [List.filter_append]
  congr 1
  rw [List.filter_cons, List.filter_nil, decide_eq_true (show d.e < u by omega), Bool.and_true]
theorem E_snocC (h : ∀ d ∈ es, d.e < t) (hd : d.e = t) (hu : t < u) (c : isCh th k d = true) : E (es ++ [d]) th k u = E es th k t ++ [d] := by rw [E_snoc h hd hu, c]; rfl
theorem E_snocN (h : ∀ d ∈ es, d.e < t) (hd : d.e = t) (hu : t < u) (c : isCh th k d = false) : E (es ++ [d]) th k u = E es th k t := by rw [E_snoc h hd hu, c]; simp
theorem E_mem : d ∈ E es th k u ↔ d ∈ es ∧ (d.work.deed.changes ∧ thing d.work.deed = th ∧ d.work.hand = k) ∧ d.e < u := by
  unfold E
  rw [List.mem_filter, Bool.and_eq_true, isCh_iff, decide_eq_true_iff]
theorem E_pre (hs : es.Pairwise fun a b => a.e < b.e) (huv : u ≤ v) : ∃ r, E es th k v = E es th k u ++ r ∧ ∀ d ∈ r, u ≤ d.e := by
  induction es with
  | nil => exact ⟨[], rfl, fun _ h => nomatch h⟩
  | cons x es ih =>
    obtain ⟨h1, h2⟩ := List.pairwise_cons.mp hs
    obtain ⟨r, e, hr⟩ := ih h2
    by_cases hx : x.e < u
    · refine ⟨r, ?_, hr⟩
      have a1 : E (x :: es) th k v = (if isCh th k x then [x] else []) ++ E es th k v := by
        unfold E
        rw [List.filter_cons, decide_eq_true (show x.e < v by omega), Bool.and_true]
        split <;> rfl
      have a2 : E (x :: es) th k u = (if isCh th k x then [x] else []) ++ E es th k u := by
        unfold E
        rw [List.filter_cons, decide_eq_true hx, Bool.and_true]
        split <;> rfl
      rw [a1, a2, e, List.append_assoc]
    · have a2 : E (x :: es) th k u = [] := by
        refine filter_none fun y hy => ?_
        rcases List.mem_cons.mp hy with rfl | hy
        · rw [decide_eq_false hx]; simp
        · have := h1 y hy
          rw [decide_eq_false (by omega)]; simp
      refine ⟨E (x :: es) th k v, by rw [a2]; rfl, fun d hd => ?_⟩
      have := (E_mem.mp hd).1
      rcases List.mem_cons.mp this with rfl | hm
      · omega
      · have := h1 d hm; omega
theorem E_len (hs : es.Pairwise fun a b => a.e < b.e) (huv : u ≤ v) : (E es th k u).length ≤ (E es th k v).length := by
  obtain ⟨r, e, _⟩ := E_pre (th := th) (k := k) hs huv
  rw [e, List.length_append]; omega
theorem E_eq (hs : es.Pairwise fun a b => a.e < b.e) (huv : u ≤ v) (h : (E es th k u).length = (E es th k v).length) : E es th k u = E es th k v := by
  obtain ⟨r, e, _⟩ := E_pre (th := th) (k := k) hs huv
  rw [e, List.length_append] at h
  have : r = [] := List.length_eq_zero_iff.mp (by omega)
  rw [e, this, List.append_nil]
theorem E_mid {w : Nat} (hs : es.Pairwise fun a b => a.e < b.e) (huv : u ≤ v) (hvw : v ≤ w) (h : E es th k u = E es th k w) : E es th k v = E es th k w := by
  have h1 := E_len (th := th) (k := k) hs huv
  have h2 := E_len (th := th) (k := k) hs hvw
  rw [h] at h1
  exact E_eq hs hvw (by omega)
theorem E_at (hs : es.Pairwise fun a b => a.e < b.e) (huv : u ≤ v) {i : Nat} (hi : i < (E es th k u).length) : (E es th k v)[i]? = (E es th k u)[i]? := by
  obtain ⟨r, e, _⟩ := E_pre (th := th) (k := k) hs huv
  rw [e, List.getElem?_append_left hi]
theorem E_ge (hs : es.Pairwise fun a b => a.e < b.e) {i : Nat} (hi : (E es th k u).length ≤ i) (h : (E es th k v)[i]? = some d) : u ≤ d.e := by
  by_cases huv : u ≤ v
  · obtain ⟨r, e, hr⟩ := E_pre (th := th) (k := k) hs huv
    rw [e, List.getElem?_append_right hi] at h
    exact hr d (List.mem_of_getElem? h)
  · have h1 := E_len (th := th) (k := k) hs (show v ≤ u by omega)
    rw [List.getElem?_eq_none (by omega)] at h; cases h
theorem cellF_snoc {l : List DoneS} : cellF (l ++ [d]) = updN (cellF l) d.work.deed := by unfold cellF; rw [List.foldl_append]; rfl
theorem flat_snoc {l : List DoneS} : flat (l ++ [d]) = flat l ++ [d.work.stamp, giveN d.work.deed] := by unfold flat; rw [List.flatMap_append]; simp
theorem flat_len {l : List DoneS} : (flat l).length = 2 * l.length := by
  induction l with
  | nil => rfl
  | cons x r ih =>
    have : flat (x :: r) = [x.work.stamp, giveN x.work.deed] ++ flat r := rfl
    rw [this, List.length_append, ih]; simp; omega
theorem flat_at {l : List DoneS} : ∀ {i : Nat}, l[i]? = some d → (flat l)[2 * i]? = some d.work.stamp ∧ (flat l)[2 * i + 1]? = some (giveN d.work.deed) := by
  induction l with
  | nil => intro i h; simp at h
  | cons x r ih =>
    intro i h
    have e : flat (x :: r) = x.work.stamp :: giveN x.work.deed :: flat r := rfl
    rw [e]
    cases i with
    | zero =>
      simp at h; subst h; exact ⟨rfl, rfl⟩
    | succ j =>
      have h2 := ih (i := j) (by simpa using h)
      rw [show 2 * (j + 1) = 2 * j + 1 + 1 by omega]
      simpa using h2
theorem rowP_snoc {l : List DoneS} : rowP (l ++ [d]) = [((l.length + 1 : Nat) : Int), updN (cellF l) d.work.deed] ++ viewOf d := by
  unfold rowP
  rw [List.getLast?_append]
  simp [cellF_snoc]
theorem rowV_nil : rowV th [] = [] := by unfold rowV; split <;> rfl
theorem val_nil : val th [] = 0 := by unfold val; split <;> simp
theorem val_snoc {l : List DoneS} (h : th ≠ 0) : val th (l ++ [d]) = pkN (rowV th (l ++ [d])) := by
  unfold val; rw [if_neg h, if_neg (by simp)]
theorem un_val {l : List DoneS} (h : th ≠ 0) (hb : ∀ x ∈ rowV th l, inB x) : un (val th l) = rowV th l := by
  unfold val
  rw [if_neg h]
  split
  · rename_i e; subst e; rw [un_zero, rowV_nil]
  · exact un_pkN hb
noncomputable def num (v : Int) : Int := if v = 0 then 0 else (un v).getD 0 0
theorem rowP_shape {l : List DoneS} (h : l ≠ []) : ∃ d, l.getLast? = some d ∧ rowP l = [(l.length : Int), cellF l] ++ viewOf d := by
  unfold rowP
  cases e : l.getLast? with
  | none => exact absurd (List.getLast?_eq_none_iff.mp e) h
  | some d => exact ⟨d, rfl, rfl⟩
theorem val_pos {l : List DoneS} (h : th ≠ 0) (hn : l ≠ []) (h4 : rowV th l ≠ []) (hb : ∀ x ∈ rowV th l, inB x) : 1 < val th l := by
  unfold val
  rw [if_neg h, if_neg hn]
  cases e : rowV th l with
  | nil => exact absurd e h4
  | cons x r => rw [e] at hb; exact pkN_gt hb
theorem rowP_ne {l : List DoneS} (hn : l ≠ []) : rowP l ≠ [] := by
  obtain ⟨d, _, e⟩ := rowP_shape hn
  rw [e]; exact fun z => nomatch z
theorem num_val {l : List DoneS} (h : th ≠ 0) (h4 : th ≠ 4) (hb : ∀ x ∈ rowV th l, inB x) : num (val th l) = l.length := by
  by_cases hn : l = []
  · subst hn; rw [val_nil]; rfl
  · have ev : rowV th l = rowP l := if_neg h4
    have h1 := val_pos h hn (by rw [ev]; exact rowP_ne hn) hb
    unfold num
    rw [if_neg (by omega), un_val h hb, ev]
    obtain ⟨d, _, e⟩ := rowP_shape hn
    rw [e]; rfl
theorem cellOf_val {l : List DoneS} (h : th ≠ 0) (h4 : th ≠ 4) (hb : ∀ x ∈ rowV th l, inB x) : cellOf (val th l) = cellF l := by
  by_cases hn : l = []
  · subst hn; rw [val_nil]; rfl
  · have ev : rowV th l = rowP l := if_neg h4
    have h1 := val_pos h hn (by rw [ev]; exact rowP_ne hn) hb
    unfold cellOf
    rw [if_neg (by omega), un_val h hb, ev]
    obtain ⟨d, _, e⟩ := rowP_shape hn
    rw [e]; rfl
end
end Mir
set_option Elab.async false
set_option linter.all false
set_option maxRecDepth 100000
set_option maxHeartbeats 4000000
namespace Mir
open Sp
noncomputable def viewAt (es : List DoneS) (m th u : Nat) : List Int := (List.range m).map fun k => cellF (E es th k u)
noncomputable def cntS (es : List DoneS) (m u : Nat) : Nat := ((List.range m).map fun k => (E es 0 k u).length).sum
noncomputable def isTk (k : Nat) (d : DoneS) : Bool := decide (d.work.deed = .take) && (decide (d.work.ans ≠ .non) && decide (d.work.giver = k))
noncomputable def tkn (es : List DoneS) (k u : Nat) : Nat := (es.filter fun d => isTk k d && decide (d.e < u)).length
noncomputable def isChg : Deed → Prop
  | .set _ => True | .add _ => True | .raise _ => True | _ => False
noncomputable def isLook : Deed → Prop
  | .look => True | .sum => True | .top => True | _ => False
noncomputable def isGive : Deed → Prop
  | .give _ => True | _ => False
noncomputable def ViewI (es : List DoneS) (m th b hi : Nat) (mom : Int) (v : List Int) : Prop := ∃ M : Nat, mom = M ∧ b ≤ M ∧ M < hi ∧ v = viewAt es m th (M + 1)
structure Fact (es : List DoneS) (m : Nat) (d : DoneS) : Prop where
  one : d.work.deed = .one → d.work.ans = .non ∧ d.work.moment = d.e ∧ d.b = d.e
  count : d.work.deed = .count → ∃ a : Nat, d.work.ans = .int a ∧ cntS es m d.b ≤ a ∧ a ≤ cntS es m d.e
  look : isLook d.work.deed → ∃ v, d.work.ans = lookAns v d.work.deed ∧ ViewI es m (thing d.work.deed) d.b (d.e + 1) d.work.moment v
  chg : isChg d.work.deed → d.work.ans = .non ∧ d.work.moment = d.e ∧ ViewI es m (thing d.work.deed) d.b d.e (momOf d) (viewOf d)
  give : isGive d.work.deed → d.work.ans = .non ∧ d.work.moment = d.e ∧ 1 ≤ d.work.stamp ∧ d.work.stamp ≤ d.e + 1 ∧ ∀ k, k < m → ∀ g ∈ E es 4 k d.b, g.work.stamp < d.work.stamp
  take : d.work.deed = .take → d.work.hand = 0 ∧ ((d.work.ans = .non ∧ ∀ k, k < m → (E es 4 k d.b).length ≤ tkn es k d.e) ∨
    ∃ G, d.work.giver < m ∧ d.work.nth = tkn es d.work.giver d.e ∧ (E es 4 d.work.giver d.e)[tkn es d.work.giver d.e]? = some G ∧ d.work.ans = .int (giveN G.work.deed) ∧ ∀ k, k < m → (E es 4 k G.b).length ≤ tkn es k d.e)
structure ScanI (es : List DoneS) (m th b now h own : Nat) (s : ScanS) : Prop where
  row : s.row.length < m
  view : s.view = none
  nd : s.moved.Nodup
  mv : ∀ k ∈ s.moved, k < m ∧ k ≠ h
  first : s.ahead = none → s.moved = [] ∧ own = s.row.length ∧ ∀ k, k < s.row.length → ∃ u, b ≤ u ∧ u ≤ now ∧ s.row.getD k 0 = val th (E es th k u)
  later : ∀ ah, s.ahead = some ah → ah.length = m ∧ ∃ r up : Nat, own = r * m + s.row.length ∧ 1 ≤ r ∧ r ≤ s.moved.length + 1 ∧ s.upto = up ∧ b ≤ up ∧ up < now ∧
    (∀ k, k < m → ∃ u, b ≤ u ∧ u ≤ up ∧ ah.getD k 0 = val th (E es th k u)) ∧ (∀ k, k < s.row.length → ∃ u, up < u ∧ u ≤ now ∧ s.row.getD k 0 = val th (E es th k u)) ∧
    ∀ k ∈ s.moved, ((E es th k b).length : Int) < num (ah.getD k 0)
structure WInv (es : List DoneS) (m h b now own : Nat) (w : WorkS) : Prop where
  ans : w.deed ≠ .count → w.ans = .non
  x : match w.x with
    | .one => w.deed = .one ∧ own = 0 ∧ b = now
    | .count row => w.deed = .count ∧ row.length < m ∧ own = row.length ∧ ∀ k, k < row.length → ((E es 0 k b).length : Int) ≤ row.getD k 0 ∧ row.getD k 0 ≤ (E es 0 k now).length
    | .look s => isLook w.deed ∧ ScanI es m (thing w.deed) b now h own s
    | .change s => isChg w.deed ∧ match s.view with
      | none => ScanI es m (thing w.deed) b now h own s
      | some v => own ≤ m * (m + 1) ∧ ViewI es m (thing w.deed) b now s.moment v
    | .give read => isGive w.deed ∧ read ≤ m ∧ own = read ∧ 0 ≤ w.stamp ∧ w.stamp ≤ now ∧ ∀ k, k < read → ∀ g ∈ E es 4 k b, g.work.stamp ≤ w.stamp
    | .take rows again => w.deed = .take ∧ h = 0 ∧ rows.length < m ∧ own = (if again then m else 0) + rows.length ∧ ∃ lo, b ≤ lo ∧ lo ≤ now ∧ (again = false → lo = b) ∧ (again = true → ∃ k, k < m ∧ tkn es k now < (E es 4 k lo).length) ∧
      ∀ k, k < rows.length → ∃ u, lo ≤ u ∧ u ≤ now ∧ rows.getD k [] = flat (E es 4 k u)
structure MemOk (es : List DoneS) (h now : Nat) (m : MemS) : Prop where
  ones : m.ones = (E es 0 h now).length
  pS : m.pS = (E es 1 h now).length
  pA : m.pA = (E es 2 h now).length
  pR : m.pR = (E es 3 h now).length
  cS : m.cS = cellF (E es 1 h now)
  cA : m.cA = cellF (E es 2 h now)
  cR : m.cR = cellF (E es 3 h now)
  gifts : m.gifts = flat (E es 4 h now)
structure Inv (P : List (List Deed)) (S : HallS) : Prop where
  m : 1 ≤ S.many ∧ S.many ≤ 4
  lp : P.length = S.many
  lplans : S.plans.length = S.many
  lboxes : S.boxes.length = 5 * S.many
  lmems : S.mems.length = S.many
  lunder : S.underway.length = S.many
  lbegins : S.begins.length = S.many
  lown : S.own.length = S.many
  hl : S.hands.length = S.log.length
  plan : ∀ h, h < S.many → (S.ended.filter fun d => decide (d.work.hand = h)).map (·.work.deed) ++ (S.underway.getD h none).toList.map (·.deed) ++ S.plans.getD h [] = P.getD h []
  pok : ∀ h, h < S.many → (P.getD h []).length ≤ 40 ∧ ∀ d ∈ P.getD h [], d.ok ∧ (d = .take → h = 0)
  srt : S.ended.Pairwise fun a b => a.e < b.e
  fin : ∀ d ∈ S.ended, d.b ≤ d.e ∧ d.e < S.hands.length ∧ d.work.hand < S.many
  seq : S.ended.Pairwise fun a b => a.work.hand = b.work.hand → a.e < b.b
  nb : ∀ d ∈ S.ended, ∀ c ∈ S.ended, c.e = d.b → c.e = d.e
  under : ∀ h, h < S.many → ∀ w, S.underway.getD h none = some w → (w.x ≠ .one ∧ S.begins.getD h 0 < S.hands.length ∧ ∀ d ∈ S.ended, d.e ≠ S.begins.getD h 0) ∧ w.hand = h ∧ S.begins.getD h 0 ≤ S.hands.length ∧ (∀ d ∈ S.ended, d.work.hand = h → d.e < S.begins.getD h 0) ∧ WInv S.ended S.many h (S.begins.getD h 0) S.hands.length (S.own.getD h 0) w
  boxes : ∀ th k, th < 5 → k < S.many → S.boxes.getD (th * S.many + k) 0 = val th (E S.ended th k S.hands.length)
  mem : ∀ h, h < S.many → MemOk S.ended h S.hands.length (S.mems.getD h (.new S.many))
  took : (S.mems.getD 0 (.new S.many)).took = (List.range S.many).map fun k => (tkn S.ended k S.hands.length : Int)
  lent1 : ∀ th k, 1 ≤ th → th ≤ 3 → k < S.many → ∀ i d, (E S.ended th k S.hands.length)[i]? = some d → S.lent.lookup (th * S.many + k, ((i + 1 : Nat) : Int)) = some (momOf d)
  lent2 : ∀ th k (n : Int), 1 ≤ th → th ≤ 3 → k < S.many → ((E S.ended th k S.hands.length).length : Int) < n → S.lent.lookup (th * S.many + k, n) = none
  inb : ∀ th k u, th ≠ 0 → th < 5 → k < S.many → ∀ x ∈ rowV th (E S.ended th k u), inB x
  fact : ∀ d ∈ S.ended, Fact S.ended S.many d
  lentl : S.lent.length ≤ S.hands.length
theorem tkn_over {es : List DoneS} {k u v : Nat} (h : ∀ d ∈ es, d.e < u) (hv : u ≤ v) : tkn es k v = tkn es k u := by
  unfold tkn
  congr 1
  refine List.filter_congr fun d hd => ?_
  have := h d hd
  rw [decide_eq_true (show d.e < v by omega), decide_eq_true this]
theorem tkn_app {es : List DoneS} {d : DoneS} {k u : Nat} (h : u ≤ d.e) : tkn (es ++ [d]) k u = tkn es k u := by
  unfold tkn
  rw [List.filter_append]
  have : [d].filter (fun d => isTk k d && decide (d.e < u)) = [] := by
    refine filter_none fun x hx => ?_
    obtain rfl := List.mem_singleton.mp hx
    rw [decide_eq_false (by omega)]; simp
  rw [this, List.append_nil]
theorem tkn_snoc {es : List DoneS} {d : DoneS} {k u t : Nat} (h : ∀ d ∈ es, d.e < t) (hd : d.e = t) (hu : t < u) : tkn (es ++ [d]) k u = tkn es k t + if isTk k d then 1 else 0 := by
  have e0 : tkn es k u = tkn es k t := tkn_over h (by omega)
  rw [← e0]
  unfold tkn
  rw [List.filter_append, List.length_append]
  congr 1
  rw [List.filter_cons, List.filter_nil, decide_eq_true (show d.e < u by omega), Bool.and_true]
  split <;> rfl
section
variable {es es' : List DoneS} {m th b now now' h own : Nat} {s : ScanS} {w : WorkS}
theorem viewAt_congr {u : Nat} (hE : ∀ th k u, u ≤ now → E es' th k u = E es th k u) (hu : u ≤ now) : viewAt es' m th u = viewAt es m th u := by
  unfold viewAt
  exact List.map_congr_left fun k _ => by rw [hE _ _ _ hu]
theorem ViewI.more {hi hi' : Nat} {mom : Int} {v : List Int} (hE : ∀ th k u, u ≤ now → E es' th k u = E es th k u) (h1 : hi ≤ hi') (h2 : hi ≤ now) (x : ViewI es m th b hi mom v) : ViewI es' m th b hi' mom v := by
  obtain ⟨M, e, k1, k2, k3⟩ := x
  exact ⟨M, e, k1, by omega, by rw [k3, viewAt_congr hE (by omega)]⟩
theorem ScanI.more (hE : ∀ th k u, u ≤ now → E es' th k u = E es th k u) (hn : now ≤ now') (hb : b ≤ now) (x : ScanI es m th b now h own s) : ScanI es' m th b now' h own s := by
  refine ⟨x.row, x.view, x.nd, x.mv, fun e => ?_, fun ah e => ?_⟩
  · obtain ⟨h1, h2, h3⟩ := x.first e
    refine ⟨h1, h2, fun k hk => ?_⟩
    obtain ⟨u, a1, a2, a3⟩ := h3 k hk
    exact ⟨u, a1, by omega, by rw [a3, hE _ _ _ a2]⟩
  · obtain ⟨h1, r, up, a1, a2, a3, a4, a5, a6, a7, a8, a9⟩ := x.later ah e
    refine ⟨h1, r, up, a1, a2, a3, a4, a5, by omega, fun k hk => ?_, fun k hk => ?_, fun k hk => ?_⟩
    · obtain ⟨u, c1, c2, c3⟩ := a7 k hk
      exact ⟨u, c1, c2, by rw [c3, hE _ _ _ (by omega)]⟩
    · obtain ⟨u, c1, c2, c3⟩ := a8 k hk
      exact ⟨u, c1, by omega, by rw [c3, hE _ _ _ (by omega)]⟩
    · rw [hE _ _ _ hb]; exact a9 k hk
theorem WInv.more (hE : ∀ th k u, u ≤ now → E es' th k u = E es th k u) (hn : now ≤ now') (hb : b ≤ now) (hc : ∀ k, (E es 0 k now).length ≤ (E es' 0 k now').length) (ht : h = 0 → ∀ k, tkn es' k now' = tkn es k now) (h1 : w.x ≠ .one) (x : WInv es m h b now own w) : WInv es' m h b now' own w := by
  refine ⟨x.ans, ?_⟩
  have hx := x.x
  split
  · rename_i e; exact absurd e h1
  · rename_i row e
    rw [e] at hx
    obtain ⟨a1, a2, a3, a4⟩ := hx
    refine ⟨a1, a2, a3, fun k hk => ?_⟩
    obtain ⟨c1, c2⟩ := a4 k hk
    have := hc k
    exact ⟨by rw [hE _ _ _ hb]; exact c1, by omega⟩
  · rename_i s e
    rw [e] at hx
    exact ⟨hx.1, hx.2.more hE hn hb⟩
  · rename_i s e
    rw [e] at hx
    refine ⟨hx.1, ?_⟩
    have hx := hx.2
    split
    · rename_i e2
      rw [e2] at hx
      exact hx.more hE hn hb
    · rename_i v e2
      rw [e2] at hx
      exact ⟨hx.1, hx.2.more hE hn (Nat.le_refl _)⟩
  · rename_i read e
    rw [e] at hx
    obtain ⟨a1, a2, a3, a4, a5, a6⟩ := hx
    exact ⟨a1, a2, a3, a4, by omega, fun k hk g hg => a6 k hk g (by rw [hE _ _ _ hb] at hg; exact hg)⟩
  · rename_i rows again e
    rw [e] at hx
    obtain ⟨a1, a2, a3, a4, lo, a5, a6, a7, a8, a9⟩ := hx
    refine ⟨a1, a2, a3, a4, lo, a5, by omega, a7, fun z => ?_, fun k hk => ?_⟩
    · obtain ⟨k, c1, c2⟩ := a8 z
      exact ⟨k, c1, by rw [ht a2, hE _ _ _ a6]; exact c2⟩
    · obtain ⟨u, c1, c2, c3⟩ := a9 k hk
      exact ⟨u, c1, by omega, by rw [c3, hE _ _ _ c2]⟩
theorem cntS_congr {u : Nat} (hE : ∀ th k u, u ≤ now → E es' th k u = E es th k u) (hu : u ≤ now) : cntS es' m u = cntS es m u := by
  unfold cntS
  congr 1
  exact List.map_congr_left fun k _ => by rw [hE _ _ _ hu]
theorem Fact.more {d : DoneS} (hE : ∀ th k u, u ≤ now → E es' th k u = E es th k u) (hT : ∀ k u, u ≤ now → tkn es' k u = tkn es k u) (hd : d.b ≤ d.e ∧ d.e < now) (hg : ∀ k G, G ∈ E es 4 k d.e → G.b ≤ now) (x : Fact es m d) : Fact es' m d := by
  refine ⟨x.one, fun z => ?_, fun z => ?_, fun z => ?_, fun z => ?_, fun z => ?_⟩
  · obtain ⟨a, h1, h2, h3⟩ := x.count z
    exact ⟨a, h1, by rw [cntS_congr hE (by omega)]; exact h2, by rw [cntS_congr hE (by omega)]; exact h3⟩
  · obtain ⟨v, h1, h2⟩ := x.look z
    exact ⟨v, h1, h2.more hE (Nat.le_refl _) (by omega)⟩
  · obtain ⟨h1, h2, h3⟩ := x.chg z
    exact ⟨h1, h2, h3.more hE (Nat.le_refl _) (by omega)⟩
  · obtain ⟨h1, h2, h3, h4, h5⟩ := x.give z
    exact ⟨h1, h2, h3, h4, fun k hk g hg => h5 k hk g (by rw [hE _ _ _ (by omega)] at hg; exact hg)⟩
  · obtain ⟨h0, h⟩ := x.take z
    refine ⟨h0, ?_⟩
    rcases h with ⟨h1, h2⟩ | ⟨G, h1, h2, h3, h4, h5⟩
    · exact .inl ⟨h1, fun k hk => by rw [hE _ _ _ (by omega), hT _ _ (by omega)]; exact h2 k hk⟩
    · refine .inr ⟨G, h1, by rw [hT _ _ (by omega)]; exact h2, by rw [hE _ _ _ (by omega), hT _ _ (by omega)]; exact h3, h4, fun k hk => ?_⟩
      rw [hE _ _ _ (hg _ G (List.mem_of_getElem? h3)), hT _ _ (by omega)]
      exact h5 k hk
end
end Mir
set_option Elab.async false
set_option linter.all false
set_option maxRecDepth 100000
set_option maxHeartbeats 4000000
namespace Mir
open Sp
theorem firstMoved_some {ch mv mv' : List Nat} {k : Nat} (h : firstMoved ch mv = (some k, mv')) (nd : ch.Nodup) : k ∈ ch ∧ k ∈ mv := by
  induction ch generalizing mv with
  | nil => cases h
  | cons j r ih =>
    obtain ⟨n1, n2⟩ := List.nodup_cons.mp nd
    unfold firstMoved at h
    split at h
    · rename_i hj
      cases h
      exact ⟨List.mem_cons_self .., hj⟩
    · obtain ⟨h1, h2⟩ := ih h n2
      refine ⟨List.mem_cons_of_mem _ h1, ?_⟩
      rcases List.mem_append.mp h2 with z | z
      · exact z
      · rw [List.mem_singleton.mp z] at h1; exact absurd h1 n1
theorem firstMoved_none {ch mv mv' : List Nat} (h : firstMoved ch mv = (none, mv')) : mv' = mv ++ ch ∧ ∀ k ∈ ch, k ∉ mv := by
  induction ch generalizing mv with
  | nil => cases h; exact ⟨by simp, fun _ z => nomatch z⟩
  | cons j r ih =>
    unfold firstMoved at h
    split at h
    · cases h
    · rename_i hj
      obtain ⟨h1, h2⟩ := ih h
      refine ⟨by rw [h1]; simp, fun k hk => ?_⟩
      rcases List.mem_cons.mp hk with rfl | hk
      · exact hj
      · exact fun z => h2 k hk (List.mem_append_left _ z)
theorem nodup_len : ∀ {n : Nat} {l : List Nat}, l.Nodup → (∀ k ∈ l, k < n) → l.length ≤ n
  | 0, [], _, _ => Nat.le_refl _
  | 0, k :: _, _, h => absurd (h k (List.mem_cons_self ..)) (Nat.not_lt_zero _)
  | n + 1, l, nd, h => by
    have h1 : (l.filter (· ≠ n)).length ≤ n := nodup_len (nd.filter _) fun k hk => by
      obtain ⟨a, b⟩ := List.mem_filter.mp hk
      have := h k a
      have : k ≠ n := by simpa using b
      omega
    have h2 : l.length ≤ (l.filter (· ≠ n)).length + 1 := by
      clear h h1
      induction l with
      | nil => simp
      | cons x r ih =>
        obtain ⟨n1, n2⟩ := List.nodup_cons.mp nd
        by_cases e : x = n
        · subst e
          have : (r.filter (· ≠ x)) = r := List.filter_eq_self.mpr fun y hy => by
            have : y ≠ x := fun z => n1 (z ▸ hy)
            simpa using this
          have h3 : (x :: r).filter (· ≠ x) = r.filter (· ≠ x) := by simp [List.filter_cons]
          rw [h3, this]; simp
        · have := ih n2
          rw [List.filter_cons, if_pos (by simpa using e)]
          simp at this ⊢; omega
    omega
theorem nodup_len1 {n h : Nat} {l : List Nat} (nd : l.Nodup) (k : ∀ k ∈ l, k < n ∧ k ≠ h) (hh : h < n) : l.length + 1 ≤ n := by
  have : (h :: l).length ≤ n := nodup_len (List.nodup_cons.mpr ⟨fun m => (k h m).2 rfl, nd⟩) fun j hj => by
    rcases List.mem_cons.mp hj with rfl | hj
    · exact hh
    · exact (k j hj).1
  simpa using this
theorem changed_mem {many k : Nat} {row ah : List Int} : k ∈ changedF many row ah ↔ k < many ∧ row.getD k 0 ≠ ah.getD k 0 := by
  unfold changedF
  rw [List.mem_filter, List.mem_range]
  simp
theorem changed_nd {many : Nat} {row ah : List Int} : (changedF many row ah).Nodup := by
  unfold changedF
  exact List.nodup_range.filter _
theorem isChg_of {d : DoneS} {th k : Nat} (h : isCh th k d = true) (h0 : th ≠ 0) (h4 : th ≠ 4) : isChg d.work.deed := by
  obtain ⟨a, b, _⟩ := isCh_iff.mp h
  revert a b
  cases d.work.deed <;> simp [Deed.changes, thing, isChg] <;> omega
theorem isGive_of {d : DoneS} {k : Nat} (h : isCh 4 k d = true) : isGive d.work.deed := by
  obtain ⟨a, b, _⟩ := isCh_iff.mp h
  revert a b
  cases d.work.deed <;> simp [Deed.changes, thing, isGive]
theorem getD_append_lt {α : Type} {xs : List α} {x d : α} {i : Nat} (h : i < xs.length) : (xs ++ [x]).getD i d = xs.getD i d := by
  rw [List.getD_eq_getElem?_getD, List.getD_eq_getElem?_getD, List.getElem?_append_left h]
theorem getD_append_eq {α : Type} {xs : List α} {x d : α} {i : Nat} (h : i = xs.length) : (xs ++ [x]).getD i d = x := by
  subst h
  rw [List.getD_eq_getElem?_getD, List.getElem?_append_right (Nat.le_refl _)]; simp
theorem mem_getD {xs : List Int} {x : Int} (h : x ∈ xs) : ∃ k, k < xs.length ∧ xs.getD k 0 = x := by
  obtain ⟨k, hk, e⟩ := List.getElem_of_mem h
  exact ⟨k, hk, by rw [List.getD_eq_getElem?_getD, List.getElem?_eq_getElem hk]; exact e⟩
section
variable {P : List (List Deed)} {S : HallS} (I : Inv P S)
include I
theorem Inv.E_now {th k u : Nat} (h : S.hands.length ≤ u) : E S.ended th k u = E S.ended th k S.hands.length := E_over (fun d hd => (I.fin d hd).2.1) h
theorem Inv.num {th k u : Nat} (h1 : 1 ≤ th) (h3 : th ≤ 3) (hk : k < S.many) : num (val th (E S.ended th k u)) = (E S.ended th k u).length := num_val (by omega) (by omega) (I.inb th k u (by omega) (by omega) hk)
theorem Inv.row {th k u : Nat} (h1 : 1 ≤ th) (h3 : th ≤ 3) (hk : k < S.many) (hn : E S.ended th k u ≠ []) : ∃ d, (E S.ended th k u)[(E S.ended th k u).length - 1]? = some d ∧ un (val th (E S.ended th k u)) = [((E S.ended th k u).length : Int), cellF (E S.ended th k u)] ++ viewOf d ∧ (viewOf d).length = S.many ∧ 1 < val th (E S.ended th k u) := by
  obtain ⟨d, hd, e⟩ := rowP_shape hn
  have ev : rowV th (E S.ended th k u) = rowP (E S.ended th k u) := if_neg (by omega)
  have hb := I.inb th k u (by omega) (by omega) hk
  rw [List.getLast?_eq_getElem?] at hd
  have hm := List.mem_of_getElem? hd
  obtain ⟨m1, m2, _⟩ := E_mem.mp hm
  have hc := isChg_of (isCh_iff.mpr m2) (by omega) (by omega)
  obtain ⟨_, _, M, _, _, _, hv⟩ := (I.fact d m1).chg hc
  refine ⟨d, hd, by rw [un_val (by omega) hb, ev, e], by rw [hv]; simp [viewAt], val_pos (by omega) hn (by rw [ev]; exact rowP_ne hn) hb⟩
theorem Inv.rd_ok {th k u : Nat} (h1 : 1 ≤ th) (h3 : th ≤ 3) (hk : k < S.many) : (val th (E S.ended th k u) = 0 ∨ 2 ≤ (un (val th (E S.ended th k u))).length) ∧ (un (val th (E S.ended th k u))).length ≤ 1000 := by
  by_cases hn : E S.ended th k u = []
  · rw [hn, val_nil, un_zero]; exact ⟨.inl rfl, by simp⟩
  · obtain ⟨d, _, e, hl, _⟩ := I.row h1 h3 hk hn
    have := I.m
    rw [e, List.length_append]
    simp only [List.length_cons, List.length_nil]
    exact ⟨.inr (by omega), by omega⟩
theorem Inv.cell {th k u : Nat} (h1 : 1 ≤ th) (h3 : th ≤ 3) (hk : k < S.many) : cellOf (val th (E S.ended th k u)) = cellF (E S.ended th k u) := cellOf_val (by omega) (by omega) (I.inb th k u (by omega) (by omega) hk)
theorem Inv.still {th h b u : Nat} (hb : ∀ d ∈ S.ended, d.work.hand = h → d.e < b) (hu : b ≤ u) : E S.ended th h u = E S.ended th h b := by
  unfold E
  refine List.filter_congr fun d hd => ?_
  cases hc : isCh th h d with
  | false => rfl
  | true =>
    have := hb d hd (isCh_iff.mp hc).2.2
    rw [decide_eq_true (show d.e < u by omega), decide_eq_true this]
theorem Inv.eqE {th k u v : Nat} (h1 : 1 ≤ th) (h3 : th ≤ 3) (hk : k < S.many) (huv : u ≤ v) (e : val th (E S.ended th k u) = val th (E S.ended th k v)) : E S.ended th k u = E S.ended th k v := by
  have a := I.num (u := u) h1 h3 hk
  have b := I.num (u := v) h1 h3 hk
  rw [e, b] at a
  exact E_eq I.srt huv (by omega)
theorem Inv.ltE {th k u v : Nat} (h1 : 1 ≤ th) (h3 : th ≤ 3) (hk : k < S.many) (huv : u ≤ v) (e : val th (E S.ended th k u) ≠ val th (E S.ended th k v)) : (E S.ended th k u).length < (E S.ended th k v).length := by
  have a := E_len (th := th) (k := k) I.srt huv
  have : (E S.ended th k u).length ≠ (E S.ended th k v).length := fun z => e (by rw [E_eq I.srt huv z])
  omega
theorem scan_ok {th b h own : Nat} {s : ScanS} (h1 : 1 ≤ th) (h3 : th ≤ 3) (x : ScanI S.ended S.many th b S.hands.length h own s) (hb : b ≤ S.hands.length) (hh : h < S.many) :
    ScanOk (th * S.many) S.many S.lent (val th (E S.ended th s.row.length S.hands.length)) s := by
  have hmv := nodup_len1 x.nd x.mv hh
  have hm := I.m
  have hrow : ∀ k, k < s.row.length → ∃ u, (s.row ++ [val th (E S.ended th s.row.length S.hands.length)]).getD k 0 = val th (E S.ended th k u) := fun k hk => by
    rw [getD_append_lt hk]
    cases ha : s.ahead with
    | none => obtain ⟨_, _, z⟩ := x.first ha; obtain ⟨u, _, _, e⟩ := z k hk; exact ⟨u, e⟩
    | some ah => obtain ⟨_, r, up, _, _, _, _, _, _, _, z, _⟩ := x.later ah ha; obtain ⟨u, _, _, e⟩ := z k hk; exact ⟨u, e⟩
  have hrw := x.row
  have hrow2 : ∀ k, k < s.row.length + 1 → ∃ u, (s.row ++ [val th (E S.ended th s.row.length S.hands.length)]).getD k 0 = val th (E S.ended th k u) := fun k hk => by
    by_cases e : k = s.row.length
    · exact ⟨S.hands.length, by rw [getD_append_eq e, e]⟩
    · exact hrow k (by omega)
  refine ⟨x.row, by omega, fun y hy => ?_, fun ah ha => ⟨(x.later ah ha).1, fun hful k mv hfm => ?_⟩⟩
  · obtain ⟨k, hk, e⟩ := mem_getD hy
    rw [List.length_append, List.length_cons, List.length_nil] at hk
    obtain ⟨u, e2⟩ := hrow2 k (by omega)
    rw [← e, e2]
    exact I.rd_ok h1 h3 (by omega)
  · obtain ⟨h5, h6⟩ := firstMoved_some hfm changed_nd
    obtain ⟨hkm, hne⟩ := changed_mem.mp h5
    obtain ⟨_, r, up, _, _, _, _, _, hup, hah, hrw2, hmvn⟩ := x.later ah ha
    obtain ⟨u1, c1, c2, c3⟩ := hah k hkm
    have hu2 : ∃ u2, up < u2 ∧ u2 ≤ S.hands.length ∧ (s.row ++ [val th (E S.ended th s.row.length S.hands.length)]).getD k 0 = val th (E S.ended th k u2) := by
      by_cases e : k = s.row.length
      · exact ⟨S.hands.length, hup, Nat.le_refl _, by rw [getD_append_eq e, e]⟩
      · rw [getD_append_lt (by omega)]; exact hrw2 k (by omega)
    obtain ⟨u2, d1, d2, d3⟩ := hu2
    rw [d3, c3] at hne
    rw [d3]
    have hlt := I.ltE h1 h3 hkm (by omega) (Ne.symm hne)
    have hn2 : E S.ended th k u2 ≠ [] := fun z => by rw [z] at hlt; simp at hlt
    obtain ⟨d, hd, e, hl, _⟩ := I.row h1 h3 hkm hn2
    rw [e]
    refine ⟨by rw [List.length_append, hl]; simp only [List.length_cons, List.length_nil]; omega, ?_⟩
    show (S.lent.lookup (th * S.many + k, ((E S.ended th k u2).length : Int))).isSome = true
    have hd2 : (E S.ended th k S.hands.length)[(E S.ended th k u2).length - 1]? = some d := by rw [E_at I.srt d2 (by omega)]; exact hd
    have := I.lent1 th k h1 h3 hkm _ d hd2
    rw [show (E S.ended th k u2).length - 1 + 1 = (E S.ended th k u2).length by omega] at this
    rw [this]; rfl
theorem scan_step {th b h own : Nat} {s : ScanS} (h1 : 1 ≤ th) (h3 : th ≤ 3) (x : ScanI S.ended S.many th b S.hands.length h own s) (hb : b ≤ S.hands.length) (hh : h < S.many) (hbe : ∀ d ∈ S.ended, d.work.hand = h → d.e < b) {s' : ScanS} {c : Bool}
    (e : scanF (th * S.many) S.many (val th (E S.ended th s.row.length S.hands.length)) S.hands.length S.lent s = (s', c)) :
    (c = false → ScanI S.ended S.many th b (S.hands.length + 1) h (own + 1) s') ∧ (c = true → own + 1 ≤ S.many * (S.many + 1) ∧ ∃ v, s'.view = some v ∧ ViewI S.ended S.many th b (S.hands.length + 1) s'.moment v) := by
  have hm := I.m
  have hmv := nodup_len1 x.nd x.mv hh
  have hrw := x.row
  unfold scanF at e
  dsimp only at e
  split at e
  · -- the round goes on
    rename_i hlt
    rw [List.length_append, List.length_cons, List.length_nil] at hlt
    cases e
    refine ⟨fun _ => ⟨by simpa using hlt, x.view, x.nd, x.mv, fun ha => ?_, fun ah ha => ?_⟩, fun z => nomatch z⟩
    · obtain ⟨g1, g2, g3⟩ := x.first ha
      refine ⟨g1, by simp [g2], fun k hk => ?_⟩
      dsimp only at hk ⊢
      rw [List.length_append, List.length_cons, List.length_nil] at hk
      by_cases ek : k = s.row.length
      · exact ⟨S.hands.length, hb, by omega, by rw [getD_append_eq ek, ek]⟩
      · obtain ⟨u, c1, c2, c3⟩ := g3 k (by omega)
        exact ⟨u, c1, by omega, by rw [getD_append_lt (by omega)]; exact c3⟩
    · obtain ⟨g1, r, up, g2, g3, g4, g5, g6, g7, g8, g9, g10⟩ := x.later ah ha
      refine ⟨g1, r, up, by simp [g2]; omega, g3, g4, g5, g6, by omega, g8, fun k hk => ?_, g10⟩
      dsimp only at hk ⊢
      rw [List.length_append, List.length_cons, List.length_nil] at hk
      by_cases ek : k = s.row.length
      · exact ⟨S.hands.length, g7, by omega, by rw [getD_append_eq ek, ek]⟩
      · obtain ⟨u, c1, c2, c3⟩ := g9 k (by omega)
        exact ⟨u, c1, by omega, by rw [getD_append_lt (by omega)]; exact c3⟩
  · rename_i hge
    rw [List.length_append, List.length_cons, List.length_nil] at hge
    have hful : s.row.length + 1 = S.many := by omega
    split at e
    · -- the first round is at its end
      rename_i ha
      cases e
      obtain ⟨g1, g2, g3⟩ := x.first ha
      refine ⟨fun _ => ⟨by simp; omega, x.view, x.nd, x.mv, fun z => (nomatch z), fun ah z => ?_⟩, fun z => nomatch z⟩
      cases z
      refine ⟨by simp [hful], 1, S.hands.length, by simp [g2, hful], Nat.le_refl _, by omega, rfl, hb, by omega, fun k hk => ?_, fun k hk => absurd hk (Nat.not_lt_zero _), fun k hk => ?_⟩
      · by_cases ek : k = s.row.length
        · exact ⟨S.hands.length, hb, Nat.le_refl _, by rw [getD_append_eq ek, ek]⟩
        · obtain ⟨u, c1, c2, c3⟩ := g3 k (by omega)
          exact ⟨u, c1, c2, by rw [getD_append_lt (by omega)]; exact c3⟩
      · dsimp only at hk
        rw [g1] at hk; cases hk
    · rename_i ah ha
      obtain ⟨g1, r, up, g2, g3, g4, g5, g6, g7, g8, g9, g10⟩ := x.later ah ha
      generalize hn : val th (E S.ended th s.row.length S.hands.length) = n at e
      have hrow : ∀ k, k < S.many → ∃ u, up < u ∧ u ≤ S.hands.length ∧ (s.row ++ [n]).getD k 0 = val th (E S.ended th k u) := fun k hk => by
        by_cases ek : k = s.row.length
        · exact ⟨S.hands.length, g7, Nat.le_refl _, by rw [getD_append_eq ek, ek, hn]⟩
        · obtain ⟨u, c1, c2, c3⟩ := g9 k (by omega)
          exact ⟨u, c1, c2, by rw [getD_append_lt (by omega)]; exact c3⟩
      have hown : own + 1 ≤ S.many * (S.many + 1) := by
        have : r * S.many ≤ S.many * S.many := Nat.mul_le_mul_right _ (by omega)
        rw [Nat.mul_add, Nat.mul_one]; omega
      have hlook : ∀ s2 c2, lookedF (th * S.many) S.many S.lent ah { s with row := s.row ++ [n] } = (s2, c2) →
          (c2 = true → ∃ v, s2.view = some v ∧ ViewI S.ended S.many th b (S.hands.length + 1) s2.moment v) ∧
          (c2 = false → s2 = { s with row := s.row ++ [n], moved := s.moved ++ changedF S.many (s.row ++ [n]) ah } ∧ (∀ k ∈ changedF S.many (s.row ++ [n]) ah, k ∉ s.moved) ∧ changedF S.many (s.row ++ [n]) ah ≠ []) := by
        intro s2 c2 hl
        unfold lookedF at hl
        dsimp only at hl
        split at hl
        · -- both readings alike
          rename_i hch
          cases hl
          refine ⟨fun _ => ⟨_, rfl, up, g5, g6, by omega, ?_⟩, fun z => nomatch z⟩
          unfold viewAt
          refine List.ext_getElem? fun k => ?_
          by_cases hk : k < S.many
          · obtain ⟨u2, d1, d2, d3⟩ := hrow k hk
            obtain ⟨u1, c1, c2, c3⟩ := g8 k hk
            have heq : (s.row ++ [n]).getD k 0 = ah.getD k 0 := by
              by_cases z : (s.row ++ [n]).getD k 0 = ah.getD k 0
              · exact z
              · have := changed_mem.mpr ⟨hk, z⟩
                rw [hch] at this; cases this
            have hE : E S.ended th k u1 = E S.ended th k u2 := I.eqE h1 h3 hk (by omega) (by rw [← c3, ← d3, heq])
            have hM := E_mid (v := up + 1) I.srt (by omega) (by omega) hE
            have hl : (s.row ++ [n]).length = S.many := by simp [hful]
            have hg : (s.row ++ [n])[k]? = some (val th (E S.ended th k u2)) := by
              rw [← d3, List.getD_eq_getElem?_getD, List.getElem?_eq_getElem (by omega)]; rfl
            rw [List.getElem?_map, hg, List.getElem?_map, List.getElem?_range hk]
            simp only [Option.map_some]
            rw [hM, I.cell h1 h3 hk]
          · rw [List.getElem?_eq_none (by simp; omega), List.getElem?_eq_none (by simp; omega)]
        · rename_i hne0
          split at hl
          · rename_i k mv hfm
            cases hl
            refine ⟨fun _ => ⟨_, rfl, ?_⟩, fun z => nomatch z⟩
            obtain ⟨h5, h6⟩ := firstMoved_some hfm changed_nd
            obtain ⟨hkm, hne⟩ := changed_mem.mp h5
            obtain ⟨u2, d1, d2, d3⟩ := hrow k hkm
            obtain ⟨u1, c1, c2, c3⟩ := g8 k hkm
            rw [d3, c3] at hne
            have hlt := I.ltE h1 h3 hkm (by omega) (Ne.symm hne)
            have hmn := g10 k h6
            rw [c3, I.num h1 h3 hkm] at hmn
            have hn2 : E S.ended th k u2 ≠ [] := fun z => by rw [z] at hlt; simp at hlt
            obtain ⟨d, hd, e, hl, _⟩ := I.row h1 h3 hkm hn2
            have hd2 : (E S.ended th k S.hands.length)[(E S.ended th k u2).length - 1]? = some d := by rw [E_at I.srt d2 (by omega)]; exact hd
            have hlk := I.lent1 th k h1 h3 hkm _ d hd2
            rw [show (E S.ended th k u2).length - 1 + 1 = (E S.ended th k u2).length by omega] at hlk
            rw [d3, e]
            dsimp only
            have hmom : lentF S.lent (th * S.many + k) (((E S.ended th k u2).length : Int)) = momOf d := by
              unfold lentF; rw [hlk]; rfl
            show ViewI _ _ _ _ _ (lentF S.lent (th * S.many + k) (((E S.ended th k u2).length : Int))) (viewOf d)
            rw [hmom]
            obtain ⟨m1, m2, m3⟩ := E_mem.mp (List.mem_of_getElem? hd)
            have hc := isChg_of (isCh_iff.mpr m2) (by omega) (by omega)
            obtain ⟨_, _, M, e1, e2, e3, e4⟩ := (I.fact d m1).chg hc
            rw [m2.2.1] at e4
            refine ⟨M, e1, ?_, by omega, e4⟩
            -- the put ahead of it fell into the scan
            have hpl : (E S.ended th k u2).length - 2 < (E S.ended th k u2).length := by omega
            have hp := List.getElem?_eq_getElem hpl
            generalize (E S.ended th k u2)[(E S.ended th k u2).length - 2] = d0 at hp
            have hb0 : b ≤ d0.e := E_ge (u := b) I.srt (by omega) hp
            obtain ⟨n1, n2, n3⟩ := E_mem.mp (List.mem_of_getElem? hp)
            have hsq : d0.e < d.b := by
              have hpw : (E S.ended th k u2).Pairwise fun a b => a.work.hand = b.work.hand → a.e < b.b := I.seq.filter _
              have g1 := List.getElem?_eq_some_iff.mp hp
              have g2 := List.getElem?_eq_some_iff.mp hd
              obtain ⟨i1, j1⟩ := g1
              obtain ⟨i2, j2⟩ := g2
              have := List.pairwise_iff_getElem.mp hpw _ _ i1 i2 (by omega)
              rw [j1, j2] at this
              exact this (by rw [n2.2.2, m2.2.2])
            omega
          · rename_i mv hfm
            obtain ⟨q1, q2⟩ := firstMoved_none hfm
            cases hl
            refine ⟨fun z => (nomatch z), fun _ => ⟨by rw [q1], q2, ?_⟩⟩
            exact hne0
      split at e
      · rename_i s2 e2
        cases e
        exact ⟨fun z => (nomatch z), fun _ => ⟨hown, (hlook _ _ e2).1 rfl⟩⟩
      · rename_i s2 e2
        obtain ⟨e3, e4, e5⟩ := (hlook _ _ e2).2 rfl
        subst e3
        cases e
        refine ⟨fun _ => ⟨by simp; omega, x.view, ?_, fun k hk => ?_, fun z => (nomatch z), fun ah2 z => ?_⟩, fun z => nomatch z⟩
        · exact List.nodup_append.mpr ⟨x.nd, changed_nd, fun a ha b hb z => e4 b hb (z ▸ ha)⟩
        · rcases List.mem_append.mp hk with z | z
          · exact x.mv k z
          · obtain ⟨hkm, hne⟩ := changed_mem.mp z
            refine ⟨hkm, fun ek => ?_⟩
            subst ek
            obtain ⟨u2, d1, d2, d3⟩ := hrow k hkm
            obtain ⟨u1, c1, c2, c3⟩ := g8 k hkm
            rw [d3, c3, I.still hbe (by omega), I.still hbe c1] at hne
            exact hne rfl
        · cases z
          have hcl : 1 ≤ (changedF S.many (s.row ++ [n]) ah).length := List.length_pos_iff.mpr e5
          refine ⟨by simp [hful], r + 1, S.hands.length, ?_, by omega, ?_, rfl, hb, by omega, fun k hk => ?_, fun k hk => absurd hk (Nat.not_lt_zero _), fun k hk => ?_⟩
          · dsimp only; rw [g2, Nat.add_mul]; simp; omega
          · simp only [List.length_append]; omega
          · obtain ⟨u2, d1, d2, d3⟩ := hrow k hk
            exact ⟨u2, by omega, d2, d3⟩
          · dsimp only at hk ⊢
            have hkm : k < S.many := by
              rcases List.mem_append.mp hk with z | z
              · exact (x.mv k z).1
              · exact (changed_mem.mp z).1
            obtain ⟨u2, d1, d2, d3⟩ := hrow k hkm
            obtain ⟨u1, c1, c2, c3⟩ := g8 k hkm
            rw [d3, I.num h1 h3 hkm]
            have a1 := E_len (th := th) (k := k) I.srt (show u1 ≤ u2 by omega)
            rcases List.mem_append.mp hk with z | z
            · have := g10 k z
              rw [c3, I.num h1 h3 hkm] at this
              omega
            · have hne := (changed_mem.mp z).2
              rw [d3, c3] at hne
              have hlt := I.ltE h1 h3 hkm (by omega) (Ne.symm hne)
              have a2 := E_len (th := th) (k := k) I.srt c1
              omega
end
end Mir
set_option Elab.async false
set_option linter.all false
set_option maxRecDepth 100000
set_option maxHeartbeats 4000000
namespace Mir
open Sp
structure Beg (P : List (List Deed)) (S : HallS) (h : Nat) (w : WorkS) (pl : List (List Deed)) (un : List (Option WorkS)) (bg ow : List Nat) : Prop where
  lp : pl.length = S.many
  lu : un.length = S.many
  lb : bg.length = S.many
  lo : ow.length = S.many
  here : un.getD h none = some w
  oth : ∀ k, k ≠ h → pl.getD k [] = S.plans.getD k [] ∧ un.getD k none = S.underway.getD k none ∧ bg.getD k 0 = S.begins.getD k 0 ∧ ow.getD k 0 = S.own.getD k 0
  hand : w.hand = h
  bn : bg.getD h 0 ≤ S.hands.length
  be : ∀ d ∈ S.ended, d.work.hand = h → d.e < bg.getD h 0
  nb : ∀ d ∈ S.ended, d.e ≠ bg.getD h 0
  wi : WInv S.ended S.many h (bg.getD h 0) S.hands.length (ow.getD h 0) w
  plan : (S.ended.filter fun d => decide (d.work.hand = h)).map (·.work.deed) ++ [w.deed] ++ pl.getD h [] = P.getD h []
theorem wnew {es : List DoneS} {m h now : Nat} {d : Deed} (hm : 1 ≤ m) (ht : d = .take → h = 0) : WInv es m h now now 0 (workNew d h) := by
  have sc : ∀ th, ScanI es m th now now h 0 .new := fun th => ⟨hm, rfl, List.nodup_nil, fun _ z => (nomatch z), fun _ => ⟨rfl, rfl, fun k hk => absurd hk (Nat.not_lt_zero _)⟩, fun _ z => (nomatch z)⟩
  refine ⟨fun _ => rfl, ?_⟩
  cases d
  case one => exact ⟨rfl, rfl, rfl⟩
  case count => exact ⟨rfl, hm, rfl, fun k hk => absurd hk (Nat.not_lt_zero _)⟩
  case set n => exact ⟨trivial, sc _⟩
  case look => exact ⟨trivial, sc _⟩
  case add n => exact ⟨trivial, sc _⟩
  case sum => exact ⟨trivial, sc _⟩
  case raise n => exact ⟨trivial, sc _⟩
  case top => exact ⟨trivial, sc _⟩
  case give n => exact ⟨trivial, Nat.zero_le _, rfl, Int.le_refl _, Int.natCast_nonneg _, fun k hk => absurd hk (Nat.not_lt_zero _)⟩
  case take => exact ⟨rfl, ht rfl, hm, rfl, now, Nat.le_refl _, Nat.le_refl _, fun _ => rfl, fun z => (nomatch z), fun k hk => absurd hk (Nat.not_lt_zero _)⟩
theorem begun_beg {P : List (List Deed)} {S S1 : HallS} {h : Nat} {w : WorkS} (I : Inv P S) (hh : h < S.many) (e : S.begun h = some (S1, w)) :
    ∃ pl un bg ow, S1 = { S with plans := pl, underway := un, begins := bg, own := ow } ∧ Beg P S h w pl un bg ow := by
  unfold HallS.begun at e
  split at e
  · rename_i w' hw
    cases e
    obtain ⟨⟨_, _, a0⟩, a1, a2, a3, a4⟩ := I.under h hh w hw
    have hp := I.plan h hh
    rw [hw] at hp
    exact ⟨S.plans, S.underway, S.begins, S.own, rfl, I.lplans, I.lunder, I.lbegins, I.lown, hw, fun _ _ => ⟨rfl, rfl, rfl, rfl⟩, a1, a2, a3, a0, a4, hp⟩
  · rename_i hw
    split at e
    · cases e
    · rename_i d r hp
      cases e
      have hpl := I.plan h hh
      rw [hw, hp] at hpl
      simp only [Option.toList_none, List.map_nil, List.append_nil] at hpl
      have hin : d ∈ P.getD h [] := by rw [← hpl]; exact List.mem_append_right _ (List.mem_cons_self ..)
      have l1 := I.lplans; have l2 := I.lunder; have l3 := I.lbegins; have l4 := I.lown
      refine ⟨_, _, _, _, rfl, by simp [l1], by simp [l2], by simp [l3], by simp [l4], getD_set_eq' (by omega), fun k hk => ⟨getD_set_ne' (Ne.symm hk), getD_set_ne' (Ne.symm hk), getD_set_ne' (Ne.symm hk), getD_set_ne' (Ne.symm hk)⟩, rfl, ?_, ?_, ?_, ?_, ?_⟩
      · rw [getD_set_eq' (by omega)]; exact Nat.le_refl _
      · rw [getD_set_eq' (by omega)]; exact fun d hd _ => (I.fin d hd).2.1
      · rw [getD_set_eq' (by omega)]; exact fun d hd => Nat.ne_of_lt (I.fin d hd).2.1
      · rw [getD_set_eq' (by omega), getD_set_eq' (by omega)]
        exact wnew I.m.1 ((I.pok h hh).2 d hin).2
      · rw [getD_set_eq' (by omega)]
        rw [← hpl]; simp [workNew]
section
variable {P : List (List Deed)} {S : HallS} (I : Inv P S)
include I
theorem Inv.deedIn {d : DoneS} (hd : d ∈ S.ended) : d.work.deed ∈ P.getD d.work.hand [] := by
  rw [← I.plan _ (I.fin d hd).2.2]
  refine List.mem_append_left _ (List.mem_append_left _ (List.mem_map.mpr ⟨d, List.mem_filter.mpr ⟨hd, by simp⟩, rfl⟩))
theorem Inv.deedOk {d : DoneS} (hd : d ∈ S.ended) : d.work.deed.ok ∧ (d.work.deed = .take → d.work.hand = 0) := (I.pok _ (I.fin d hd).2.2).2 _ (I.deedIn hd)
theorem Inv.handLen {k : Nat} (hk : k < S.many) : (S.ended.filter fun d => decide (d.work.hand = k)).length ≤ 40 := by
  have h1 := I.plan k hk
  have h2 := (I.pok k hk).1
  have := congrArg List.length h1
  simp only [List.length_append, List.length_map] at this
  omega
theorem Inv.E_le {th k u : Nat} : (E S.ended th k u).length ≤ (S.ended.filter fun d => decide (d.work.hand = k)).length := by
  unfold E
  have : S.ended.filter (fun d => isCh th k d && decide (d.e < u)) = (S.ended.filter fun d => decide (d.work.hand = k)).filter fun d => isCh th k d && decide (d.e < u) := by
    rw [List.filter_filter]
    refine List.filter_congr fun d hd => ?_
    cases hc : isCh th k d with
    | false => simp
    | true => rw [decide_eq_true (isCh_iff.mp hc).2.2]; simp
  rw [this]
  exact List.length_filter_le _ _
end
theorem updN_b {c : Int} {d : Deed} {n : Nat} (h : 0 ≤ c ∧ c ≤ 999 * n) (hd : d.ok) : 0 ≤ updN c d ∧ updN c d ≤ 999 * ((n + 1 : Nat) : Int) := by
  cases d <;> simp only [updN, Deed.ok] at * <;> omega
theorem cellF_b {l : List DoneS} (h : ∀ d ∈ l, d.work.deed.ok) : 0 ≤ cellF l ∧ cellF l ≤ 999 * l.length := by
  have key : ∀ (l : List DoneS) (c : Int) (n : Nat), 0 ≤ c ∧ c ≤ 999 * n → (∀ d ∈ l, d.work.deed.ok) → 0 ≤ l.foldl (fun c d => updN c d.work.deed) c ∧ l.foldl (fun c d => updN c d.work.deed) c ≤ 999 * ((n + l.length : Nat) : Int) := by
    intro l
    induction l with
    | nil => intro c n hc _; exact hc
    | cons x r ih =>
      intro c n hc hl
      have h1 := ih (updN c x.work.deed) (n + 1) (updN_b hc (hl x (List.mem_cons_self ..))) fun d hd => hl d (List.mem_cons_of_mem _ hd)
      simp only [List.foldl_cons, List.length_cons]
      rw [show n + (r.length + 1) = n + 1 + r.length by omega]
      exact h1
  have := key l 0 0 (by omega) h
  simpa [cellF] using this
section
variable {P : List (List Deed)} {S : HallS} (I : Inv P S)
include I
theorem Inv.cellB {th k u : Nat} (hk : k < S.many) : 0 ≤ cellF (E S.ended th k u) ∧ cellF (E S.ended th k u) < 1000000 := by
  have h1 := cellF_b (l := E S.ended th k u) fun d hd => (I.deedOk (E_mem.mp hd).1).1
  have h2 := I.E_le (th := th) (k := k) (u := u)
  have h3 := I.handLen hk
  omega
theorem Inv.viewB {th u : Nat} : ∀ x ∈ viewAt S.ended S.many th u, inB x := by
  intro x hx
  obtain ⟨k, hk, rfl⟩ := List.mem_map.mp hx
  exact I.cellB (List.mem_range.mp hk)
end
theorem viewAt_len {es : List DoneS} {m th u : Nat} : (viewAt es m th u).length = m := by simp [viewAt]
noncomputable def pN (m : MemS) (th : Nat) : Int := if th = 1 then m.pS else if th = 2 then m.pA else m.pR
noncomputable def cN (m : MemS) (th : Nat) : Int := if th = 1 then m.cS else if th = 2 then m.cA else m.cR
theorem changeMem_2 {m : MemS} {d : Deed} (h : isChg d) : (changeMem m d).2 = (pN m (thing d) + 1, updN (cN m (thing d)) d) := by
  cases d <;> simp_all [isChg, changeMem, pN, cN, thing, updN]
theorem chg_thing {d : Deed} (h : isChg d) : 1 ≤ thing d ∧ thing d ≤ 3 := by cases d <;> simp_all [isChg, thing]
theorem look_thing {d : Deed} (h : isLook d) : 1 ≤ thing d ∧ thing d ≤ 3 := by cases d <;> simp_all [isLook, thing]
theorem chg_changes {d : Deed} (h : isChg d) : d.changes := by cases d <;> simp_all [isChg, Deed.changes]
theorem look_changes {d : Deed} (h : isLook d) : ¬ d.changes := by cases d <;> simp_all [isLook, Deed.changes]
theorem give_changes {d : Deed} (h : isGive d) : d.changes ∧ thing d = 4 := by cases d <;> simp_all [isGive, Deed.changes, thing]
theorem MemOk.p {es : List DoneS} {h now th : Nat} {m : MemS} (x : MemOk es h now m) (h1 : 1 ≤ th) (h3 : th ≤ 3) : pN m th = (E es th h now).length ∧ cN m th = cellF (E es th h now) := by
  have : th = 1 ∨ th = 2 ∨ th = 3 := by omega
  rcases this with rfl | rfl | rfl
  · exact ⟨x.pS, x.cS⟩
  · exact ⟨x.pA, x.cA⟩
  · exact ⟨x.pR, x.cR⟩
section
variable {P : List (List Deed)} {S : HallS} {h : Nat} {w : WorkS} {pl : List (List Deed)} {un : List (Option WorkS)} {bg ow : List Nat} (I : Inv P S) (B : Beg P S h w pl un bg ow) (hh : h < S.many)
include I B hh
theorem Beg.deed : w.deed.ok ∧ (w.deed = .take → h = 0) := (I.pok h hh).2 _ (by rw [← B.plan]; simp)
theorem Beg.few : (S.ended.filter fun d => decide (d.work.hand = h)).length + 1 ≤ 40 := by
  have h2 := (I.pok h hh).1
  have := congrArg List.length B.plan
  simp only [List.length_append, List.length_map, List.length_cons, List.length_nil] at this
  omega
theorem Beg.chgB (hc : isChg w.deed) {v : List Int} {M : Nat} (hv : v = viewAt S.ended S.many (thing w.deed) M) : ∀ x ∈ [(((E S.ended (thing w.deed) h S.hands.length).length + 1 : Nat) : Int), updN (cellF (E S.ended (thing w.deed) h S.hands.length)) w.deed] ++ v, inB x := by
  intro x hx
  have h1 := I.E_le (th := thing w.deed) (k := h) (u := S.hands.length)
  have h2 := B.few I hh
  rcases List.mem_append.mp hx with z | z
  · rcases List.mem_cons.mp z with rfl | z
    · exact ⟨by omega, by omega⟩
    · obtain rfl := List.mem_singleton.mp z
      have h3 := cellF_b (l := E S.ended (thing w.deed) h S.hands.length) fun d hd => (I.deedOk (E_mem.mp hd).1).1
      have h4 := updN_b h3 (B.deed I hh).1
      exact ⟨h4.1, by omega⟩
  · subst hv; exact I.viewB x z
theorem Beg.stepOk (hf : S.hands.length ≤ 90000) : StepOk S.many S.boxes S.lent (S.mems.getD h (.new S.many)) w := by
  have hx := B.wi.x
  have hm := I.m
  have hM := I.mem h hh
  unfold StepOk
  dsimp only
  split at hx
  · rename_i e; (try rw [e]); exact hx.1
  · rename_i row e; (try rw [e]); exact ⟨hx.1, hx.2.1⟩
  · rename_i s e
    (try rw [e])
    obtain ⟨h1, h3⟩ := look_thing hx.1
    refine ⟨by revert hx; cases w.deed <;> simp [isLook], ?_⟩
    have := scan_ok I h1 h3 hx.2 B.bn hh
    rw [I.boxes _ _ (by omega) hx.2.row]
    exact this
  · rename_i s e
    (try rw [e])
    obtain ⟨hc, hx⟩ := hx
    obtain ⟨h1, h3⟩ := chg_thing hc
    refine ⟨by revert hc; cases w.deed <;> simp [isChg], ?_⟩
    split at hx
    · rename_i e2
      (try rw [e2])
      (try dsimp only)
      rw [I.boxes _ _ (by omega) hx.row]
      exact scan_ok I h1 h3 hx B.bn hh
    · rename_i v e2
      obtain ⟨_, M, _, _, _, hv⟩ := hx
      have hp := hM.p h1 h3
      (try rw [e2])
      (try dsimp only)
      rw [changeMem_2 hc, hp.1, hp.2]
      refine ⟨B.chgB I hh hc hv, by rw [hv, viewAt_len]; omega, ?_⟩
      rw [B.hand]
      exact I.lent2 _ _ _ h1 h3 hh (by omega)
  · rename_i read e
    (try rw [e])
    obtain ⟨hg, a1, a2, a3, a4, a5⟩ := hx
    refine ⟨by revert hg; cases w.deed <;> simp [isGive], fun hr => ?_, fun hr => ?_⟩
    · rw [(give_changes hg).2, I.boxes _ _ (by omega) hr, un_val (by omega) (I.inb 4 read _ (by omega) (by omega) hr)]
      show (flat _).length ≤ 1000
      rw [flat_len]
      have := I.E_le (th := 4) (k := read) (u := S.hands.length)
      have := I.handLen hr
      omega
    · rw [hM.gifts]
      have := I.E_le (th := 4) (k := h) (u := S.hands.length)
      have := I.handLen hh
      refine ⟨fun x hx => ?_, by rw [flat_len]; omega⟩
      rcases List.mem_append.mp hx with z | z
      · exact I.inb 4 h S.hands.length (by omega) (by omega) hh x z
      · rcases List.mem_cons.mp z with rfl | z
        · exact ⟨by omega, by omega⟩
        · obtain rfl := List.mem_singleton.mp z
          have := (B.deed I hh).1
          revert hg this
          cases w.deed <;> simp [isGive, Deed.ok, giveN, inB]
          omega
  · rename_i rows again e
    (try rw [e])
    obtain ⟨hd, h0, a1, a2, lo, a3, a4, a5, a6, a7⟩ := hx
    subst h0
    refine ⟨hd, a1, by rw [I.took]; simp, by rw [I.took]; intro t ht; obtain ⟨k, _, rfl⟩ := List.mem_map.mp ht; exact Int.natCast_nonneg _, fun r hr => ?_⟩
    have hlen : ∀ k u, k < S.many → (flat (E S.ended 4 k u)).length % 2 = 0 ∧ (flat (E S.ended 4 k u)).length ≤ 1000 := fun k u hk => by
      rw [flat_len]
      have := I.E_le (th := 4) (k := k) (u := u)
      have := I.handLen hk
      omega
    rcases List.mem_append.mp hr with z | z
    · obtain ⟨k, hk, e⟩ := List.getElem_of_mem z
      obtain ⟨u, _, _, e2⟩ := a7 k hk
      rw [List.getD_eq_getElem?_getD, List.getElem?_eq_getElem hk, Option.getD_some, e] at e2
      rw [e2]
      exact hlen k u (by omega)
    · obtain rfl := List.mem_singleton.mp z
      rw [hd]
      have e3 : Mir.un (S.boxes.getD (thing Deed.take * S.many + rows.length) 0) = flat (E S.ended 4 rows.length S.hands.length) := by
        show Mir.un (S.boxes.getD (4 * S.many + rows.length) 0) = _
        rw [I.boxes _ _ (by omega) a1, un_val (by omega) (I.inb 4 _ _ (by omega) (by omega) a1)]
        rfl
      rw [e3]
      exact hlen _ _ a1
end
end Mir
set_option Elab.async false
set_option linter.all false
set_option maxRecDepth 100000
set_option maxHeartbeats 4000000
namespace Mir
open Sp
theorem set_getD_self {α : Type} {xs : List α} {i : Nat} {d : α} : xs.set i (xs.getD i d) = xs := by
  refine List.ext_getElem? fun j => ?_
  by_cases e : i = j
  · subst e
    by_cases h : i < xs.length
    · rw [List.getElem?_set_self h, List.getD_eq_getElem?_getD, List.getElem?_eq_getElem h]; rfl
    · rw [List.getElem?_eq_none (by simp; omega), List.getElem?_eq_none (by omega)]
  · rw [List.getElem?_set_ne e]
noncomputable def goS (S : HallS) (h : Nat) (pl : List (List Deed)) (un : List (Option WorkS)) (bg ow : List Nat) (t : Touch) (w : WorkS) : HallS :=
  { S with plans := pl, hands := S.hands ++ [h], log := S.log ++ [t], underway := un.set h (some w), begins := bg, own := ow.set h (ow.getD h 0 + 1) }
noncomputable def endS (S : HallS) (h : Nat) (pl : List (List Deed)) (un : List (Option WorkS)) (bg ow : List Nat) (r : StepR) : HallS :=
  { S with plans := pl, hands := S.hands ++ [h], boxes := S.putT r.touch, log := S.log ++ [r.touch], mems := S.mems.set h r.mem, lent := r.lent, ended := S.ended ++ [⟨r.work, bg.getD h 0, S.hands.length⟩], underway := un.set h none, begins := bg, own := ow.set h 0 }
section
variable {P : List (List Deed)} {S : HallS} {h : Nat} {w : WorkS} {pl : List (List Deed)} {un : List (Option WorkS)} {bg ow : List Nat} (I : Inv P S) (B : Beg P S h w pl un bg ow) (hh : h < S.many)
include I B hh
theorem run_goS {r : StepR} (hr : stepF S.many S.hands.length S.boxes S.lent (S.mems.getD h (.new S.many)) w = r) (h1 : r.fin = false) (h2 : r.touch.taken = true) (h3 : r.mem = S.mems.getD h (.new S.many)) (h4 : r.lent = S.lent) :
    ({ S with plans := pl, underway := un, begins := bg, own := ow } : HallS).run h w = goS S h pl un bg ow r.touch r.work := by
  unfold HallS.run goS HallS.putT
  dsimp only
  rw [hr, h1]
  dsimp only
  rw [h3, h4, h2, if_pos rfl, set_getD_self]
theorem run_endS {r : StepR} (hr : stepF S.many S.hands.length S.boxes S.lent (S.mems.getD h (.new S.many)) w = r) (h1 : r.fin = true) :
    ({ S with plans := pl, underway := un, begins := bg, own := ow } : HallS).run h w = endS S h pl un bg ow r := by
  unfold HallS.run endS HallS.putT
  dsimp only
  rw [hr, h1]
theorem go_inv {t : Touch} {w' : WorkS} (hw : w'.hand = h) (hd : w'.deed = w.deed) (hx : w'.x ≠ .one) (W : WInv S.ended S.many h (bg.getD h 0) (S.hands.length + 1) (ow.getD h 0 + 1) w') : Inv P (goS S h pl un bg ow t w') := by
  have en : ∀ th k, E S.ended th k (S.hands.length + 1) = E S.ended th k S.hands.length := fun th k => I.E_now (by omega)
  have tn : ∀ k, tkn S.ended k (S.hands.length + 1) = tkn S.ended k S.hands.length := fun k => tkn_over (fun d hd => (I.fin d hd).2.1) (by omega)
  have hl : (S.hands ++ [h]).length = S.hands.length + 1 := by simp
  have lu := B.lu
  have lo := B.lo
  refine { m := I.m, lp := I.lp, lplans := B.lp, lboxes := I.lboxes, lmems := I.lmems, lunder := by simp [goS, lu], lbegins := B.lb, lown := by simp [goS, lo], hl := by simp [goS, I.hl], plan := fun k hk => ?_, pok := I.pok, srt := I.srt, fin := fun d hd => ?_, seq := I.seq, nb := I.nb, under := fun k hk v hv => ?_, boxes := fun th k a b => ?_, mem := fun k hk => ?_, took := ?_, lent1 := fun th k a b c i d hd => ?_, lent2 := fun th k n a b c hn => ?_, inb := I.inb, fact := I.fact, lentl := ?_ }
  · show (S.ended.filter _).map _ ++ (((un.set h (some w')).getD k none).toList.map _) ++ pl.getD k [] = _
    by_cases e : k = h
    · subst e
      rw [getD_set_eq' (by rw [lu]; exact hh)]
      have := B.plan
      simpa [hd] using this
    · rw [getD_set_ne' (Ne.symm e), (B.oth k e).1, (B.oth k e).2.1]
      exact I.plan k hk
  · obtain ⟨a, b, c⟩ := I.fin d hd
    exact ⟨a, by show d.e < (S.hands ++ [h]).length; rw [hl]; omega, c⟩
  · change (un.set h (some w')).getD k none = some v at hv
    show (v.x ≠ .one ∧ bg.getD k 0 < (S.hands ++ [h]).length ∧ ∀ d ∈ S.ended, d.e ≠ bg.getD k 0) ∧ v.hand = k ∧ bg.getD k 0 ≤ (S.hands ++ [h]).length ∧ (∀ d ∈ S.ended, d.work.hand = k → d.e < bg.getD k 0) ∧ WInv S.ended S.many k (bg.getD k 0) (S.hands ++ [h]).length ((ow.set h (ow.getD h 0 + 1)).getD k 0) v
    rw [hl]
    by_cases e : k = h
    · subst e
      rw [getD_set_eq' (by rw [lu]; exact hh)] at hv
      cases hv
      rw [getD_set_eq' (by rw [lo]; exact hh)]
      have hbn := B.bn
      exact ⟨⟨hx, by omega, B.nb⟩, hw, by omega, B.be, W⟩
    · rw [getD_set_ne' (Ne.symm e), (B.oth k e).2.1] at hv
      rw [getD_set_ne' (Ne.symm e), (B.oth k e).2.2.1, (B.oth k e).2.2.2]
      obtain ⟨⟨a0, b1, b2⟩, a1, a2, a3, a4⟩ := I.under k hk v hv
      exact ⟨⟨a0, by omega, b2⟩, a1, by omega, a3, a4.more (fun _ _ _ _ => rfl) (by omega) a2 (fun j => by rw [en]; exact Nat.le_refl _) (fun _ j => tn j) a0⟩
  · show S.boxes.getD (th * S.many + k) 0 = val th (E S.ended th k (S.hands ++ [h]).length)
    rw [hl, en]; exact I.boxes th k a b
  · show MemOk S.ended k (S.hands ++ [h]).length _
    rw [hl]
    have x := I.mem k hk
    exact ⟨by rw [en]; exact x.ones, by rw [en]; exact x.pS, by rw [en]; exact x.pA, by rw [en]; exact x.pR, by rw [en]; exact x.cS, by rw [en]; exact x.cA, by rw [en]; exact x.cR, by rw [en]; exact x.gifts⟩
  · show (S.mems.getD 0 (.new S.many)).took = (List.range S.many).map fun k => (tkn S.ended k (S.hands ++ [h]).length : Int)
    rw [hl]
    simp only [tn]
    exact I.took
  · change (E S.ended th k (S.hands ++ [h]).length)[i]? = some d at hd
    rw [hl, en] at hd
    exact I.lent1 th k a b c i d hd
  · change ((E S.ended th k (S.hands ++ [h]).length).length : Int) < n at hn
    rw [hl, en] at hn
    exact I.lent2 th k n a b c hn
  · show S.lent.length ≤ (S.hands ++ [h]).length
    have := I.lentl
    rw [hl]; omega
theorem end_inv {r : StepR} {d : DoneS} (ed : d = ⟨r.work, bg.getD h 0, S.hands.length⟩) (hw : r.work.hand = h) (hd : r.work.deed = w.deed) (F : Fact (S.ended ++ [d]) S.many d)
    (Bl : (S.putT r.touch).length = 5 * S.many) (Bx : ∀ th k, th < 5 → k < S.many → (S.putT r.touch).getD (th * S.many + k) 0 = val th (E (S.ended ++ [d]) th k (S.hands.length + 1)))
    (M : MemOk (S.ended ++ [d]) h (S.hands.length + 1) r.mem) (T : h = 0 → r.mem.took = (List.range S.many).map fun k => (tkn (S.ended ++ [d]) k (S.hands.length + 1) : Int))
    (L1 : ∀ th k, 1 ≤ th → th ≤ 3 → k < S.many → ∀ i c, (E (S.ended ++ [d]) th k (S.hands.length + 1))[i]? = some c → r.lent.lookup (th * S.many + k, ((i + 1 : Nat) : Int)) = some (momOf c))
    (L2 : ∀ th k (n : Int), 1 ≤ th → th ≤ 3 → k < S.many → ((E (S.ended ++ [d]) th k (S.hands.length + 1)).length : Int) < n → r.lent.lookup (th * S.many + k, n) = none)
    (N : ∀ th k, th ≠ 0 → th < 5 → k < S.many → ∀ x ∈ rowV th (E (S.ended ++ [d]) th k (S.hands.length + 1)), inB x) (Ll : r.lent.length ≤ S.hands.length + 1) : Inv P (endS S h pl un bg ow r) := by
  have de : d.e = S.hands.length := by rw [ed]
  have db : d.b = bg.getD h 0 := by rw [ed]
  have dh : d.work.hand = h := by rw [ed]; exact hw
  have dd : d.work.deed = w.deed := by rw [ed]; exact hd
  have fin := fun x hx => (I.fin x hx).2.1
  have hE : ∀ th k u, u ≤ S.hands.length → E (S.ended ++ [d]) th k u = E S.ended th k u := fun th k u hu => E_app (by omega)
  have hT : ∀ k u, u ≤ S.hands.length → tkn (S.ended ++ [d]) k u = tkn S.ended k u := fun k u hu => tkn_app (by omega)
  have hl : (S.hands ++ [h]).length = S.hands.length + 1 := by simp
  have hnt : h ≠ 0 → ∀ k, isTk k d = false := fun hn k => by
    unfold isTk
    rw [decide_eq_false (fun z => hn ((B.deed I hh).2 (by rw [← dd]; exact z)))]; rfl
  have tks : h ≠ 0 → ∀ k, tkn (S.ended ++ [d]) k (S.hands.length + 1) = tkn S.ended k S.hands.length := fun hn k => by
    rw [tkn_snoc fin de (by omega), hnt hn k]; rfl
  have lu := B.lu
  have lo := B.lo
  have lb := B.lb
  have eE : endS S h pl un bg ow r = { S with plans := pl, hands := S.hands ++ [h], boxes := S.putT r.touch, log := S.log ++ [r.touch], mems := S.mems.set h r.mem, lent := r.lent, ended := S.ended ++ [d], underway := un.set h none, begins := bg, own := ow.set h 0 } := by rw [ed]; rfl
  rw [eE]
  refine { m := I.m, lp := I.lp, lplans := B.lp, lboxes := Bl, lmems := by simp [I.lmems], lunder := by simp [lu], lbegins := lb, lown := by simp [lo], hl := by simp [I.hl], plan := fun k hk => ?_, pok := I.pok, srt := ?_, fin := fun x hx => ?_, seq := ?_, nb := fun x hx y hy => ?_, under := fun k hk v hv => ?_, boxes := fun th k a b => ?_, mem := fun k hk => ?_, took := ?_, lent1 := fun th k a b c i x hx => ?_, lent2 := fun th k n a b c hn => ?_, inb := fun th k u a b c => ?_, fact := fun x hx => ?_, lentl := ?_ }
  · show ((S.ended ++ [d]).filter _).map _ ++ (((un.set h none).getD k none).toList.map _) ++ pl.getD k [] = _
    rw [List.filter_append]
    by_cases e : k = h
    · subst e
      rw [getD_set_eq' (by rw [lu]; exact hh), ← B.plan]
      simp [dh, dd]
    · rw [getD_set_ne' (Ne.symm e), (B.oth k e).1, (B.oth k e).2.1]
      have : [d].filter (fun d => decide (d.work.hand = k)) = [] := by
        rw [List.filter_cons, if_neg (by simp [dh]; exact fun z => e z.symm)]; rfl
      rw [this, List.append_nil]
      exact I.plan k hk
  · refine List.pairwise_append.mpr ⟨I.srt, List.pairwise_singleton _ _, fun x hx y hy => ?_⟩
    obtain rfl := List.mem_singleton.mp hy
    have := fin x hx; omega
  · show x.b ≤ x.e ∧ x.e < (S.hands ++ [h]).length ∧ _
    rw [hl]
    rcases List.mem_append.mp hx with z | z
    · obtain ⟨a, b, c⟩ := I.fin x z
      exact ⟨a, by omega, c⟩
    · obtain rfl := List.mem_singleton.mp z
      have := B.bn
      exact ⟨by omega, by omega, by rw [dh]; exact hh⟩
  · refine List.pairwise_append.mpr ⟨I.seq, List.pairwise_singleton _ _, fun x hx y hy e => ?_⟩
    obtain rfl := List.mem_singleton.mp hy
    rw [db]
    exact B.be x hx (by rw [e, dh])
  · rcases List.mem_append.mp hx with z | z
    · obtain ⟨a, b, c⟩ := I.fin x z
      rcases List.mem_append.mp hy with z2 | z2
      · exact I.nb x z y z2
      · obtain rfl := List.mem_singleton.mp z2
        omega
    · obtain rfl := List.mem_singleton.mp z
      rcases List.mem_append.mp hy with z2 | z2
      · intro e
        exact absurd (e.trans db) (B.nb y z2)
      · obtain rfl := List.mem_singleton.mp z2
        exact fun _ => rfl
  · change (un.set h none).getD k none = some v at hv
    show (v.x ≠ .one ∧ bg.getD k 0 < (S.hands ++ [h]).length ∧ ∀ c ∈ S.ended ++ [d], c.e ≠ bg.getD k 0) ∧ v.hand = k ∧ bg.getD k 0 ≤ (S.hands ++ [h]).length ∧ (∀ c ∈ S.ended ++ [d], c.work.hand = k → c.e < bg.getD k 0) ∧ WInv (S.ended ++ [d]) S.many k (bg.getD k 0) (S.hands ++ [h]).length ((ow.set h 0).getD k 0) v
    rw [hl]
    by_cases e : k = h
    · subst e
      rw [getD_set_eq' (by rw [lu]; exact hh)] at hv
      cases hv
    · rw [getD_set_ne' (Ne.symm e), (B.oth k e).2.1] at hv
      rw [getD_set_ne' (Ne.symm e), (B.oth k e).2.2.1, (B.oth k e).2.2.2]
      obtain ⟨⟨a0, b1, b2⟩, a1, a2, a3, a4⟩ := I.under k hk v hv
      refine ⟨⟨a0, by omega, fun c hc => ?_⟩, a1, by omega, fun c hc hk2 => ?_, a4.more hE (by omega) a2 (fun j => ?_) (fun k0 j => tks (by omega) j) a0⟩
      · rcases List.mem_append.mp hc with z | z
        · exact b2 c z
        · obtain rfl := List.mem_singleton.mp z
          omega
      · rcases List.mem_append.mp hc with z | z
        · exact a3 c z hk2
        · obtain rfl := List.mem_singleton.mp z
          exact absurd (hk2.symm.trans dh) e
      · rw [E_snoc fin de (by omega), List.length_append]; omega
  · show (S.putT r.touch).getD (th * S.many + k) 0 = val th (E (S.ended ++ [d]) th k (S.hands ++ [h]).length)
    rw [hl]; exact Bx th k a b
  · show MemOk (S.ended ++ [d]) k (S.hands ++ [h]).length ((S.mems.set h r.mem).getD k (.new S.many))
    rw [hl]
    by_cases e : k = h
    · subst e
      rw [getD_set_eq' (by rw [I.lmems]; exact hh)]; exact M
    · rw [getD_set_ne' (Ne.symm e)]
      have en : ∀ th, E (S.ended ++ [d]) th k (S.hands.length + 1) = E S.ended th k S.hands.length := fun th => E_snocN fin de (by omega) (by
        cases hc : isCh th k d with
        | false => rfl
        | true => exact absurd ((isCh_iff.mp hc).2.2.symm.trans dh) e)
      have x := I.mem k hk
      exact ⟨by rw [en]; exact x.ones, by rw [en]; exact x.pS, by rw [en]; exact x.pA, by rw [en]; exact x.pR, by rw [en]; exact x.cS, by rw [en]; exact x.cA, by rw [en]; exact x.cR, by rw [en]; exact x.gifts⟩
  · show ((S.mems.set h r.mem).getD 0 (.new S.many)).took = (List.range S.many).map fun k => (tkn (S.ended ++ [d]) k (S.hands ++ [h]).length : Int)
    rw [hl]
    by_cases e : h = 0
    · rw [← T e]; subst e
      rw [getD_set_eq' (by rw [I.lmems]; exact hh)]
    · rw [getD_set_ne' e, I.took]
      refine List.map_congr_left fun k _ => ?_
      rw [tks e]
  · change (E (S.ended ++ [d]) th k (S.hands ++ [h]).length)[i]? = some x at hx
    rw [hl] at hx
    exact L1 th k a b c i x hx
  · change ((E (S.ended ++ [d]) th k (S.hands ++ [h]).length).length : Int) < n at hn
    rw [hl] at hn
    exact L2 th k n a b c hn
  · show ∀ x ∈ rowV th (E (S.ended ++ [d]) th k u), inB x
    by_cases hu : u ≤ S.hands.length
    · rw [hE _ _ _ hu]; exact I.inb th k u a b c
    · have e : E (S.ended ++ [d]) th k u = E (S.ended ++ [d]) th k (S.hands.length + 1) := E_over (fun x hx => by
        rcases List.mem_append.mp hx with z | z
        · have := fin x z; omega
        · obtain rfl := List.mem_singleton.mp z; omega) (by omega)
      rw [e]; exact N th k a b c
  · show Fact (S.ended ++ [d]) S.many x
    rcases List.mem_append.mp hx with z | z
    · obtain ⟨a, b, c⟩ := I.fin x z
      refine (I.fact x z).more hE hT ⟨a, b⟩ fun k G hG => ?_
      obtain ⟨g1, g2, g3⟩ := E_mem.mp hG
      have := (I.fin G g1).1
      omega
    · obtain rfl := List.mem_singleton.mp z
      exact F
  · show r.lent.length ≤ (S.hands ++ [h]).length
    rw [hl]; exact Ll
theorem end_take {r : StepR} {d : DoneS} (ed : d = ⟨r.work, bg.getD h 0, S.hands.length⟩) (hw : r.work.hand = h) (hd : r.work.deed = w.deed) (hn : ¬ w.deed.changes) (ht : r.touch.taken = true) (hm : { r.mem with took := [] } = { S.mems.getD h (.new S.many) with took := [] }) (hlt : r.lent = S.lent)
    (T : h = 0 → r.mem.took = (List.range S.many).map fun k => (tkn (S.ended ++ [d]) k (S.hands.length + 1) : Int)) (F : Fact (S.ended ++ [d]) S.many d) : Inv P (endS S h pl un bg ow r) := by
  have de : d.e = S.hands.length := by rw [ed]
  have dd : d.work.deed = w.deed := by rw [ed]; exact hd
  have fin := fun x hx => (I.fin x hx).2.1
  have nc : ∀ th k, isCh th k d = false := fun th k => by
    cases hc : isCh th k d with
    | false => rfl
    | true => exact absurd (by rw [← dd]; exact (isCh_iff.mp hc).1) hn
  have en : ∀ th k, E (S.ended ++ [d]) th k (S.hands.length + 1) = E S.ended th k S.hands.length := fun th k => E_snocN fin de (by omega) (nc th k)
  have pb : S.putT r.touch = S.boxes := by unfold HallS.putT; rw [if_pos ht]
  have x := I.mem h hh
  have hm2 : ∀ (f : MemS → Int), (∀ a b : MemS, { a with took := [] } = { b with took := [] } → f a = f b) → f r.mem = f (S.mems.getD h (.new S.many)) := fun f hf => hf _ _ hm
  have hg : r.mem.gifts = (S.mems.getD h (.new S.many)).gifts := by injection hm
  refine end_inv I B hh ed hw hd F (by rw [pb]; exact I.lboxes) (fun th k a b => by rw [pb, en]; exact I.boxes th k a b) ?_ T (fun th k a b c i x hx => by rw [hlt]; rw [en] at hx; exact I.lent1 th k a b c i x hx) (fun th k n a b c hn => by rw [hlt]; rw [en] at hn; exact I.lent2 th k n a b c hn) (fun th k a b c => by rw [en]; exact I.inb th k _ a b c) (by rw [hlt]; have := I.lentl; omega)
  refine ⟨?_, ?_, ?_, ?_, ?_, ?_, ?_, ?_⟩
  · rw [en, ← x.ones]; exact hm2 (·.ones) fun a b e => by injection e
  · rw [en, ← x.pS]; exact hm2 (·.pS) fun a b e => by injection e
  · rw [en, ← x.pA]; exact hm2 (·.pA) fun a b e => by injection e
  · rw [en, ← x.pR]; exact hm2 (·.pR) fun a b e => by injection e
  · rw [en, ← x.cS]; exact hm2 (·.cS) fun a b e => by injection e
  · rw [en, ← x.cA]; exact hm2 (·.cA) fun a b e => by injection e
  · rw [en, ← x.cR]; exact hm2 (·.cR) fun a b e => by injection e
  · rw [en, ← x.gifts]; exact hg
end
theorem idx_ne {m th th' k k' : Nat} (hk : k < m) (hk' : k' < m) (h : th * m + k = th' * m + k') : th = th' ∧ k = k' := by
  have e1 : (th * m + k) / m = th := by rw [Nat.mul_comm, Nat.mul_add_div (by omega), Nat.div_eq_of_lt hk]; omega
  have e2 : (th' * m + k') / m = th' := by rw [Nat.mul_comm, Nat.mul_add_div (by omega), Nat.div_eq_of_lt hk']; omega
  have : th = th' := by rw [← e1, ← e2, h]
  subst this
  exact ⟨rfl, by omega⟩
end Mir
set_option Elab.async false
set_option linter.all false
set_option maxRecDepth 100000
set_option maxHeartbeats 4000000
namespace Mir
open Sp
section
variable {P : List (List Deed)} {S : HallS} {h : Nat} {w : WorkS} {pl : List (List Deed)} {un : List (Option WorkS)} {bg ow : List Nat} (I : Inv P S) (B : Beg P S h w pl un bg ow) (hh : h < S.many)
include I B hh
theorem end_put {r : StepR} {d : DoneS} {th : Nat} (ed : d = ⟨r.work, bg.getD h 0, S.hands.length⟩) (hw : r.work.hand = h) (hd : r.work.deed = w.deed) (hc : w.deed.changes) (hth : thing w.deed = th)
    (ht : r.touch = ptT (th * S.many + h) (val th (E S.ended th h S.hands.length ++ [d]))) (F : Fact (S.ended ++ [d]) S.many d) (T : r.mem.took = (S.mems.getD h (.new S.many)).took)
    (M : (∀ th', th' ≠ th → E (S.ended ++ [d]) th' h (S.hands.length + 1) = E S.ended th' h S.hands.length) → E (S.ended ++ [d]) th h (S.hands.length + 1) = E S.ended th h S.hands.length ++ [d] → MemOk (S.ended ++ [d]) h (S.hands.length + 1) r.mem)
    (N : th ≠ 0 → ∀ x ∈ rowV th (E S.ended th h S.hands.length ++ [d]), inB x)
    (L : (r.lent = S.lent ∧ (th = 0 ∨ th = 4)) ∨ r.lent = lentPut S.lent (th * S.many + h) (((E S.ended th h S.hands.length).length + 1 : Nat) : Int) (momOf d)) : Inv P (endS S h pl un bg ow r) := by
  have de : d.e = S.hands.length := by rw [ed]
  have dd : d.work.deed = w.deed := by rw [ed]; exact hd
  have dh : d.work.hand = h := by rw [ed]; exact hw
  have fin := fun x hx => (I.fin x hx).2.1
  have hth4 : th < 5 := by rw [← hth]; cases w.deed <;> simp [thing]
  have yes : isCh th h d = true := isCh_iff.mpr ⟨by rw [dd]; exact hc, by rw [dd]; exact hth, dh⟩
  have no : ∀ th' k, ¬ (th' = th ∧ k = h) → isCh th' k d = false := fun th' k hn => by
    cases hc : isCh th' k d with
    | false => rfl
    | true =>
      obtain ⟨_, a, b⟩ := isCh_iff.mp hc
      exact absurd ⟨by rw [← a, dd, hth], by rw [← b, dh]⟩ hn
  have en1 : E (S.ended ++ [d]) th h (S.hands.length + 1) = E S.ended th h S.hands.length ++ [d] := E_snocC fin de (by omega) yes
  have en2 : ∀ th' k, ¬ (th' = th ∧ k = h) → E (S.ended ++ [d]) th' k (S.hands.length + 1) = E S.ended th' k S.hands.length := fun th' k hn => E_snocN fin de (by omega) (no th' k hn)
  have lb := I.lboxes
  have pb : S.putT r.touch = S.boxes.set (th * S.many + h) (val th (E S.ended th h S.hands.length ++ [d])) := by
    rw [ht]; unfold HallS.putT ptT
    dsimp only
    rw [if_neg Bool.false_ne_true, Int.toNat_natCast]
  have hin : th * S.many + h < S.boxes.length := by
    have := Nat.mul_le_mul_right S.many (show th ≤ 4 by omega)
    omega
  have nt : ∀ k, isTk k d = false := fun k => by
    unfold isTk
    rw [decide_eq_false (fun z => by rw [dd] at z; rw [z] at hc; exact hc)]; rfl
  refine end_inv I B hh ed hw hd F (by rw [pb, List.length_set]; exact lb) (fun th' k a b => ?_) (M (fun th' hn => en2 th' h fun z => hn z.1) en1) (fun e => ?_) (fun th' k a b c i x hx => ?_) (fun th' k n a b c hn => ?_) (fun th' k a b c => ?_) ?_
  · rw [pb]
    by_cases e : th' = th ∧ k = h
    · obtain ⟨rfl, rfl⟩ := e
      rw [getD_set_eq' hin, en1]
    · rw [getD_set_ne' (fun z => e (let ⟨a1, a2⟩ := idx_ne hh b z; ⟨a1.symm, a2.symm⟩)), en2 _ _ e]
      exact I.boxes th' k a b
  · subst e
    rw [T, I.took]
    refine List.map_congr_left fun k _ => ?_
    rw [tkn_snoc fin de (by omega), nt k]; rfl
  · by_cases e : th' = th ∧ k = h
    · obtain ⟨rfl, rfl⟩ := e
      rcases L with ⟨_, L⟩ | L
      · omega
      · rw [L]
        unfold lentPut
        rw [List.lookup_append]
        rw [en1] at hx
        by_cases hi : i < (E S.ended th' k S.hands.length).length
        · rw [List.getElem?_append_left hi] at hx
          rw [I.lent1 th' k a b c i x hx]; rfl
        · have hi2 : i < (E S.ended th' k S.hands.length ++ [d]).length := (List.getElem?_eq_some_iff.mp hx).1
          rw [List.length_append, List.length_cons, List.length_nil] at hi2
          have ei : i = (E S.ended th' k S.hands.length).length := by omega
          subst ei
          rw [List.getElem?_append_right (Nat.le_refl _), Nat.sub_self] at hx
          obtain rfl := Option.some.inj hx
          rw [I.lent2 th' k _ a b c (by omega)]
          simp
    · rw [en2 _ _ e] at hx
      have h0 := I.lent1 th' k a b c i x hx
      rcases L with ⟨L, _⟩ | L
      · rw [L]; exact h0
      · rw [L]; unfold lentPut; rw [List.lookup_append, h0]; rfl
  · by_cases e : th' = th ∧ k = h
    · obtain ⟨rfl, rfl⟩ := e
      rw [en1, List.length_append, List.length_cons, List.length_nil] at hn
      rcases L with ⟨_, L⟩ | L
      · omega
      · rw [L]
        unfold lentPut
        rw [List.lookup_append, I.lent2 th' k n a b c (by omega)]
        rw [Option.none_or, List.lookup_cons]
        have : ((th' * S.many + k, n) == (th' * S.many + k, (((E S.ended th' k S.hands.length).length + 1 : Nat) : Int))) = false := by
          rw [beq_eq_false_iff_ne]
          intro z
          have := congrArg Prod.snd z
          dsimp only at this
          omega
        rw [this]; rfl
    · rw [en2 _ _ e] at hn
      have h0 := I.lent2 th' k n a b c hn
      rcases L with ⟨L, _⟩ | L
      · rw [L]; exact h0
      · rw [L]; unfold lentPut
        rw [List.lookup_append, h0, Option.none_or, List.lookup_cons]
        have : ((th' * S.many + k, n) == (th * S.many + h, (((E S.ended th h S.hands.length).length + 1 : Nat) : Int))) = false := by
          rw [beq_eq_false_iff_ne]
          intro z
          exact e (idx_ne c hh (congrArg Prod.fst z))
        rw [this]; rfl
  · by_cases e : th' = th ∧ k = h
    · obtain ⟨rfl, rfl⟩ := e
      rw [en1]; exact N a
    · rw [en2 _ _ e]; exact I.inb th' k _ a b c
  · have := I.lentl
    rcases L with ⟨L, _⟩ | L
    · rw [L]; omega
    · rw [L]; simp [lentPut]; exact this
end
theorem sum_bounds : ∀ (l : List Int) (f g : Nat → Nat), (∀ k, k < l.length → (f k : Int) ≤ l.getD k 0 ∧ l.getD k 0 ≤ g k) → (((List.range l.length).map f).sum : Int) ≤ l.sum ∧ l.sum ≤ (((List.range l.length).map g).sum : Nat)
  | [], _, _, _ => by simp
  | x :: r, f, g, h => by
    have h0 := h 0 (by simp)
    have h1 := sum_bounds r (fun k => f (k + 1)) (fun k => g (k + 1)) fun k hk => by
      have := h (k + 1) (by simp; omega)
      simpa using this
    have e1 : ∀ f : Nat → Nat, ((List.range (x :: r).length).map f).sum = f 0 + ((List.range r.length).map fun k => f (k + 1)).sum := fun f => by
      rw [List.length_cons, List.range_succ_eq_map, List.map_cons, List.sum_cons, List.map_map]; rfl
    rw [e1, e1, List.sum_cons]
    simp only [List.getD_cons_zero] at h0
    omega
theorem topOf1 {a : Int} : topOf [a] = a := topOf_eq (List.mem_cons_self ..) fun y hy => by rw [List.mem_singleton.mp hy]; exact Int.le_refl _
theorem topOf2 {a b : Int} : topOf [a, b] = max a b := topOf_eq (by simp only [List.mem_cons, List.not_mem_nil, or_false]; omega) fun y hy => by
  simp only [List.mem_cons, List.not_mem_nil, or_false] at hy; omega
theorem leastF_spec {f : Nat → Int} : ∀ (r : List Nat) (k : Nat), leastF f k r ∈ k :: r ∧ ∀ j ∈ k :: r, f (leastF f k r) ≤ f j
  | [], k => ⟨List.mem_cons_self .., fun j hj => by rw [List.mem_singleton.mp hj]; exact Int.le_refl _⟩
  | j :: r, k => by
    obtain ⟨h1, h2⟩ := leastF_spec r (if f j < f k then j else k)
    unfold leastF
    refine ⟨?_, fun i hi => ?_⟩
    · rcases List.mem_cons.mp h1 with e | m
      · rw [e]; split
        · exact List.mem_cons_of_mem _ (List.mem_cons_self ..)
        · exact List.mem_cons_self ..
      · exact List.mem_cons_of_mem _ (List.mem_cons_of_mem _ m)
    · have h0 := h2 _ (List.mem_cons_self ..)
      have hkj : f (if f j < f k then j else k) ≤ f k ∧ f (if f j < f k then j else k) ≤ f j := by split <;> omega
      rcases List.mem_cons.mp hi with rfl | hi
      · omega
      · rcases List.mem_cons.mp hi with rfl | hi
        · omega
        · exact h2 i (List.mem_cons_of_mem _ hi)
section
variable {P : List (List Deed)} {S : HallS} (I : Inv P S)
include I
theorem Inv.stamps {k u : Nat} (hk : k < S.many) : (E S.ended 4 k u).Pairwise fun a b => a.work.stamp < b.work.stamp := by
  have h1 : (E S.ended 4 k u).Pairwise fun a b => a.work.hand = b.work.hand → a.e < b.b := I.seq.filter _
  refine h1.imp_of_mem fun {a b} ha hb h => ?_
  obtain ⟨a1, a2, a3⟩ := E_mem.mp ha
  obtain ⟨b1, b2, b3⟩ := E_mem.mp hb
  have hg := isGive_of (isCh_iff.mpr b2)
  obtain ⟨_, _, _, _, h5⟩ := (I.fact b b1).give hg
  exact h5 k hk a (E_mem.mpr ⟨a1, a2, h (by rw [a2.2.2, b2.2.2])⟩)
theorem Inv.last {k u : Nat} (hk : k < S.many) : ∀ g ∈ E S.ended 4 k u, ∃ s, lastStamp (flat (E S.ended 4 k u)) = [s] ∧ g.work.stamp ≤ s := by
  intro g hg
  have hn : 0 < (E S.ended 4 k u).length := List.length_pos_of_mem hg
  have hlast : (E S.ended 4 k u).length - 1 < (E S.ended 4 k u).length := by omega
  have hs := I.stamps (u := u) hk
  generalize E S.ended 4 k u = l at *
  refine ⟨(l[l.length - 1]).work.stamp, ?_, ?_⟩
  · unfold lastStamp
    rw [if_pos (by rw [flat_len]; omega), flat_len]
    have := (flat_at (List.getElem?_eq_getElem hlast)).1
    rw [List.getD_eq_getElem?_getD, show 2 * l.length - 2 = 2 * (l.length - 1) by omega, this]; rfl
  · obtain ⟨i, hi, rfl⟩ := List.getElem_of_mem hg
    by_cases e : i = l.length - 1
    · subst e; exact Int.le_refl _
    · have := List.pairwise_iff_getElem.mp hs i (l.length - 1) hi hlast (by omega)
      omega
theorem Inv.lastLe {k u : Nat} (hu : u ≤ S.hands.length) : ∀ s ∈ lastStamp (flat (E S.ended 4 k u)), s ≤ u := by
  intro s hs
  unfold lastStamp at hs
  rw [flat_len] at hs
  split at hs
  · have hlast : (E S.ended 4 k u).length - 1 < (E S.ended 4 k u).length := by omega
    have g := List.getElem?_eq_getElem hlast
    generalize (E S.ended 4 k u)[(E S.ended 4 k u).length - 1] = d at g
    have h1 := (flat_at g).1
    rw [show 2 * (E S.ended 4 k u).length - 2 = 2 * ((E S.ended 4 k u).length - 1) by omega, List.getD_eq_getElem?_getD, h1] at hs
    rw [List.mem_singleton.mp hs]
    obtain ⟨d1, d2, d3⟩ := E_mem.mp (List.mem_of_getElem? g)
    obtain ⟨_, _, _, h4, _⟩ := (I.fact d d1).give (isGive_of (isCh_iff.mpr d2))
    show d.work.stamp ≤ u
    omega
  · cases hs
end
end Mir
set_option Elab.async false
set_option linter.all false
set_option maxRecDepth 100000
set_option maxHeartbeats 4000000
namespace Mir
open Sp
theorem nChg {es : List DoneS} {m : Nat} {d : DoneS} (h1 : d.work.deed = .one → d.work.ans = .non ∧ d.work.moment = d.e ∧ d.b = d.e) (h : d.work.deed = .one) : Fact es m d :=
  ⟨h1, fun z => (by rw [h] at z; cases z), fun z => (by rw [h] at z; exact z.elim), fun z => (by rw [h] at z; exact z.elim), fun z => (by rw [h] at z; exact z.elim), fun z => (by rw [h] at z; cases z)⟩
theorem isTk_no {k : Nat} {d : DoneS} (h : d.work.deed ≠ .take) : isTk k d = false := by
  unfold isTk; rw [decide_eq_false h]; rfl
section
variable {P : List (List Deed)} {S : HallS} {h : Nat} {w : WorkS} {pl : List (List Deed)} {un : List (Option WorkS)} {bg ow : List Nat} (I : Inv P S) (B : Beg P S h w pl un bg ow) (hh : h < S.many)
include I B hh
theorem run_one (ex : w.x = .one) : Inv P (({ S with plans := pl, underway := un, begins := bg, own := ow } : HallS).run h w) := by
  have hx := B.wi.x
  rw [ex] at hx
  obtain ⟨hd, ho, hb⟩ := hx
  have hM := I.mem h hh
  have hr : stepF S.many S.hands.length S.boxes S.lent (S.mems.getD h (.new S.many)) w = ⟨ptT (thing w.deed * S.many + w.hand) ((S.mems.getD h (.new S.many)).ones + 1), { S.mems.getD h (.new S.many) with ones := (S.mems.getD h (.new S.many)).ones + 1 }, S.lent, { w with moment := S.hands.length }, true⟩ := by
    unfold stepF
    rw [ex]
  rw [run_endS I B hh hr rfl]
  refine end_put I B hh (th := 0) rfl B.hand rfl (by rw [hd]; trivial) (by rw [hd]; rfl) ?_ ?_ rfl ?_ (fun z => absurd rfl z) (.inl ⟨rfl, .inl rfl⟩)
  · dsimp only
    rw [hd, B.hand]
    show ptT (0 * S.many + h) _ = ptT (0 * S.many + h) (((E S.ended 0 h S.hands.length ++ [_]).length : Nat) : Int)
    rw [hM.ones, List.length_append]; rfl
  · refine nChg (fun _ => ⟨B.wi.ans (by rw [hd]; exact fun z => nomatch z), rfl, hb⟩) hd
  · intro e1 e2
    refine ⟨?_, ?_, ?_, ?_, ?_, ?_, ?_, ?_⟩
    · rw [e2, List.length_append]
      dsimp only
      rw [hM.ones]; rfl
    · rw [e1 1 (by omega)]; exact hM.pS
    · rw [e1 2 (by omega)]; exact hM.pA
    · rw [e1 3 (by omega)]; exact hM.pR
    · rw [e1 1 (by omega)]; exact hM.cS
    · rw [e1 2 (by omega)]; exact hM.cA
    · rw [e1 3 (by omega)]; exact hM.cR
    · rw [e1 4 (by omega)]; exact hM.gifts
theorem run_count {row : List Int} (ex : w.x = .count row) : Inv P (({ S with plans := pl, underway := un, begins := bg, own := ow } : HallS).run h w) := by
  have hx := B.wi.x
  rw [ex] at hx
  obtain ⟨hd, hrow, ho, hk⟩ := hx
  have hbn := B.bn
  have hth : thing w.deed = 0 := by rw [hd]; rfl
  generalize hn : S.boxes.getD (thing w.deed * S.many + row.length) 0 = n
  have hn2 : n = (E S.ended 0 row.length S.hands.length).length := by
    rw [← hn, hth, I.boxes 0 _ (by omega) hrow]; rfl
  have hr : stepF S.many S.hands.length S.boxes S.lent (S.mems.getD h (.new S.many)) w = ⟨tkT S.boxes (thing w.deed * S.many + row.length), S.mems.getD h (.new S.many), S.lent, { w with x := .count (row ++ [n]), ans := .int (row ++ [n]).sum }, (row ++ [n]).length = S.many⟩ := by
    unfold stepF
    rw [ex]
    dsimp only
    rw [hn]
  have hb : ∀ k, k < (row ++ [n]).length → (((E S.ended 0 k (bg.getD h 0)).length : Nat) : Int) ≤ (row ++ [n]).getD k 0 ∧ (row ++ [n]).getD k 0 ≤ (E S.ended 0 k S.hands.length).length := fun k hk2 => by
    rw [List.length_append, List.length_cons, List.length_nil] at hk2
    by_cases e : k = row.length
    · rw [getD_append_eq e, hn2, e]
      have := E_len (th := 0) (k := row.length) I.srt B.bn
      omega
    · rw [getD_append_lt (by omega)]; exact hk k (by omega)
  by_cases hf : (row ++ [n]).length = S.many
  · rw [run_endS I B hh hr (decide_eq_true hf)]
    refine end_take I B hh rfl B.hand rfl (by rw [hd]; exact fun z => z) rfl rfl rfl (fun e => ?_) ?_
    · subst e
      rw [I.took]
      refine List.map_congr_left fun k _ => ?_
      rw [tkn_snoc (fun x hx => (I.fin x hx).2.1) rfl (by omega)]
      rw [isTk_no (show w.deed ≠ .take by rw [hd]; exact fun z => nomatch z)]; rfl
    · refine ⟨fun z => (by dsimp only at z; rw [hd] at z; cases z), fun _ => ?_, fun z => (by dsimp only at z; rw [hd] at z; exact z.elim), fun z => (by dsimp only at z; rw [hd] at z; exact z.elim), fun z => (by dsimp only at z; rw [hd] at z; exact z.elim), fun z => (by dsimp only at z; rw [hd] at z; cases z)⟩
      have hs := sum_bounds (row ++ [n]) _ _ hb
      rw [hf] at hs
      refine ⟨(row ++ [n]).sum.toNat, ?_, ?_, ?_⟩
      · rw [Int.toNat_of_nonneg (by omega)]
      · rw [cntS_congr (now := S.hands.length) (fun th k u hu => E_app hu) B.bn]
        have := hs.1
        unfold cntS
        omega
      · rw [cntS_congr (now := S.hands.length) (fun th k u hu => E_app hu) (Nat.le_refl _)]
        have := hs.2
        unfold cntS
        omega
  · rw [run_goS I B hh hr (decide_eq_false hf) rfl rfl rfl]
    refine go_inv I B hh B.hand rfl (fun z => nomatch z) ⟨fun z => absurd hd z, hd, ?_, by rw [ho, List.length_append]; rfl, fun k hk2 => ?_⟩
    · have : (row ++ [n]).length = row.length + 1 := by simp
      omega
    · have en := I.E_now (th := 0) (k := k) (show S.hands.length ≤ S.hands.length + 1 by omega)
      rw [en]; exact hb k hk2
theorem run_look {s : ScanS} (ex : w.x = .look s) : Inv P (({ S with plans := pl, underway := un, begins := bg, own := ow } : HallS).run h w) := by
  have hx := B.wi.x
  rw [ex] at hx
  obtain ⟨hl, hs⟩ := hx
  obtain ⟨h1, h3⟩ := look_thing hl
  have hbx := I.boxes (thing w.deed) s.row.length (by omega) hs.row
  obtain ⟨s', c, e⟩ : ∃ s' c, scanF (thing w.deed * S.many) S.many (val (thing w.deed) (E S.ended (thing w.deed) s.row.length S.hands.length)) S.hands.length S.lent s = (s', c) := ⟨_, _, rfl⟩
  obtain ⟨g1, g2⟩ := scan_step I h1 h3 hs B.bn hh B.be e
  have hans : w.ans = .non := B.wi.ans (by intro z; rw [z] at hl; exact hl)
  cases c with
  | false =>
    have hr : stepF S.many S.hands.length S.boxes S.lent (S.mems.getD h (.new S.many)) w = ⟨tkT S.boxes (thing w.deed * S.many + s.row.length), S.mems.getD h (.new S.many), S.lent, { w with x := .look s' }, false⟩ := by
      unfold stepF
      rw [ex]
      dsimp only
      rw [hbx, e]
    rw [run_goS I B hh hr rfl rfl rfl rfl]
    exact go_inv I B hh B.hand rfl (fun z => nomatch z) ⟨fun _ => hans, hl, g1 rfl⟩
  | true =>
    obtain ⟨_, v, hv, hvi⟩ := g2 rfl
    have hr : stepF S.many S.hands.length S.boxes S.lent (S.mems.getD h (.new S.many)) w = ⟨tkT S.boxes (thing w.deed * S.many + s.row.length), S.mems.getD h (.new S.many), S.lent, { w with x := .look s', moment := s'.moment, ans := lookAns (s'.view.getD []) w.deed }, true⟩ := by
      unfold stepF
      rw [ex]
      dsimp only
      rw [hbx, e]
    rw [run_endS I B hh hr rfl]
    refine end_take I B hh rfl B.hand rfl (look_changes hl) rfl rfl rfl (fun e => ?_) ?_
    · subst e
      rw [I.took]
      refine List.map_congr_left fun k _ => ?_
      rw [tkn_snoc (fun x hx => (I.fin x hx).2.1) rfl (by omega)]
      rw [isTk_no (show w.deed ≠ .take from fun z => by rw [z] at hl; exact hl)]; rfl
    · refine ⟨fun z => (by dsimp only at z; rw [z] at hl; exact hl.elim), fun z => (by dsimp only at z; rw [z] at hl; exact hl.elim), fun _ => ?_, fun z => (by dsimp only at z; revert hl z; cases w.deed <;> simp [isLook, isChg]), fun z => (by dsimp only at z; revert hl z; cases w.deed <;> simp [isLook, isGive]), fun z => (by dsimp only at z; rw [z] at hl; exact hl.elim)⟩
      refine ⟨v, by dsimp only; rw [hv]; rfl, ?_⟩
      obtain ⟨M, m1, m2, m3, m4⟩ := hvi
      refine ⟨M, m1, m2, m3, ?_⟩
      rw [m4]
      refine (viewAt_congr (now := S.hands.length + 1) (fun th k u hu => ?_) (by omega)).symm
      by_cases hu2 : u ≤ S.hands.length
      · exact E_app hu2
      · have hn : isCh th k ⟨{ w with x := .look s', moment := s'.moment, ans := lookAns (s'.view.getD []) w.deed }, bg.getD h 0, S.hands.length⟩ = false := by
          cases hc : isCh th k ⟨{ w with x := .look s', moment := s'.moment, ans := lookAns (s'.view.getD []) w.deed }, bg.getD h 0, S.hands.length⟩ with
          | false => rfl
          | true => exact absurd (isCh_iff.mp hc).1 (look_changes hl)
        rw [E_snocN (fun x hx => (I.fin x hx).2.1) rfl (by omega) hn]
        exact (I.E_now (by omega)).symm
theorem run_change {s : ScanS} (ex : w.x = .change s) : Inv P (({ S with plans := pl, underway := un, begins := bg, own := ow } : HallS).run h w) := by
  have hx := B.wi.x
  rw [ex] at hx
  obtain ⟨hc, hs⟩ := hx
  obtain ⟨h1, h3⟩ := chg_thing hc
  have hans : w.ans = .non := B.wi.ans (by intro z; rw [z] at hc; exact hc)
  have hM := I.mem h hh
  cases hv : s.view with
  | none =>
    rw [hv] at hs
    dsimp only at hs
    have hbx := I.boxes (thing w.deed) s.row.length (by omega) hs.row
    obtain ⟨s', c, e⟩ : ∃ s' c, scanF (thing w.deed * S.many) S.many (val (thing w.deed) (E S.ended (thing w.deed) s.row.length S.hands.length)) S.hands.length S.lent s = (s', c) := ⟨_, _, rfl⟩
    obtain ⟨g1, g2⟩ := scan_step I h1 h3 hs B.bn hh B.be e
    have hr : stepF S.many S.hands.length S.boxes S.lent (S.mems.getD h (.new S.many)) w = ⟨tkT S.boxes (thing w.deed * S.many + s.row.length), S.mems.getD h (.new S.many), S.lent, { w with x := .change s' }, false⟩ := by
      unfold stepF
      rw [ex]
      dsimp only
      rw [hv]
      dsimp only
      rw [hbx, e]
    rw [run_goS I B hh hr rfl rfl rfl rfl]
    refine go_inv I B hh B.hand rfl (fun z => nomatch z) ⟨fun _ => hans, hc, ?_⟩
    dsimp only
    cases c with
    | false =>
      rw [(g1 rfl).view]
      exact g1 rfl
    | true =>
      obtain ⟨g3, v, g4, g5⟩ := g2 rfl
      rw [g4]
      exact ⟨g3, g5⟩
  | some v =>
    rw [hv] at hs
    obtain ⟨ho, M, m1, m2, m3, m4⟩ := hs
    have hp := hM.p h1 h3
    have hch := changeMem_2 (m := S.mems.getD h (.new S.many)) hc
    rw [hp.1, hp.2] at hch
    have hr : stepF S.many S.hands.length S.boxes S.lent (S.mems.getD h (.new S.many)) w = ⟨ptT (thing w.deed * S.many + w.hand) (pkN ([(changeMem (S.mems.getD h (.new S.many)) w.deed).2.1, (changeMem (S.mems.getD h (.new S.many)) w.deed).2.2] ++ v)), (changeMem (S.mems.getD h (.new S.many)) w.deed).1, lentPut S.lent (thing w.deed * S.many + w.hand) (changeMem (S.mems.getD h (.new S.many)) w.deed).2.1 s.moment, { w with moment := S.hands.length }, true⟩ := by
      unfold stepF
      rw [ex]
      dsimp only
      rw [hv]
    have hvo : ∀ b e, viewOf ⟨{ w with moment := S.hands.length }, b, e⟩ = v := fun b e => by
      unfold viewOf; dsimp only; rw [ex]; dsimp only; rw [hv]; rfl
    have hmo : ∀ b e, momOf ⟨{ w with moment := S.hands.length }, b, e⟩ = s.moment := fun b e => by
      unfold momOf; dsimp only; rw [ex]
    rw [run_endS I B hh hr rfl]
    rw [hch]
    dsimp only
    have eI : ((E S.ended (thing w.deed) h S.hands.length).length : Int) + 1 = (((E S.ended (thing w.deed) h S.hands.length).length + 1 : Nat) : Int) := rfl
    rw [eI]
    have hrow : ∀ b e, rowV (thing w.deed) (E S.ended (thing w.deed) h S.hands.length ++ [⟨{ w with moment := S.hands.length }, b, e⟩]) = [(((E S.ended (thing w.deed) h S.hands.length).length + 1 : Nat) : Int), updN (cellF (E S.ended (thing w.deed) h S.hands.length)) w.deed] ++ v := fun b e => by
      unfold rowV
      rw [if_neg (by omega), rowP_snoc, hvo]
    refine end_put I B hh (th := thing w.deed) rfl B.hand rfl (chg_changes hc) rfl ?_ ?_ ?_ ?_ ?_ (.inr ?_)
    · dsimp only
      rw [val_snoc (by omega), hrow, B.hand]
    · refine ⟨fun z => (by dsimp only at z; rw [z] at hc; exact hc.elim), fun z => (by dsimp only at z; rw [z] at hc; exact hc.elim), fun z => (by dsimp only at z; revert hc z; cases w.deed <;> simp [isLook, isChg]), fun _ => ⟨hans, rfl, ?_⟩, fun z => (by dsimp only at z; revert hc z; cases w.deed <;> simp [isGive, isChg]), fun z => (by dsimp only at z; rw [z] at hc; exact hc.elim)⟩
      rw [hvo, hmo]
      exact ⟨M, m1, m2, m3, by rw [m4]; exact (viewAt_congr (now := S.hands.length) (fun th k u hu => E_app hu) (by omega)).symm⟩
    · dsimp only
      revert hc
      cases w.deed <;> simp [isChg, changeMem]
    · intro e1 e2
      dsimp only
      revert hc h1 h3 hp hch e1 e2
      cases hdd : w.deed <;> simp only [isChg, false_implies, thing] <;> intro hc h1 h3 hp hch e1 e2
      · refine ⟨?_, ?_, ?_, ?_, ?_, ?_, ?_, ?_⟩
        · rw [e1 0 (by omega)]; exact hM.ones
        · rw [e2, List.length_append]; show (S.mems.getD h (.new S.many)).pS + 1 = _; rw [hM.pS]; rfl
        · rw [e1 2 (by omega)]; exact hM.pA
        · rw [e1 3 (by omega)]; exact hM.pR
        · rw [e2, cellF_snoc]; rfl
        · rw [e1 2 (by omega)]; exact hM.cA
        · rw [e1 3 (by omega)]; exact hM.cR
        · rw [e1 4 (by omega)]; exact hM.gifts
      · refine ⟨?_, ?_, ?_, ?_, ?_, ?_, ?_, ?_⟩
        · rw [e1 0 (by omega)]; exact hM.ones
        · rw [e1 1 (by omega)]; exact hM.pS
        · rw [e2, List.length_append]; show (S.mems.getD h (.new S.many)).pA + 1 = _; rw [hM.pA]; rfl
        · rw [e1 3 (by omega)]; exact hM.pR
        · rw [e1 1 (by omega)]; exact hM.cS
        · rw [e2, cellF_snoc, ← hM.cA]; rfl
        · rw [e1 3 (by omega)]; exact hM.cR
        · rw [e1 4 (by omega)]; exact hM.gifts
      · refine ⟨?_, ?_, ?_, ?_, ?_, ?_, ?_, ?_⟩
        · rw [e1 0 (by omega)]; exact hM.ones
        · rw [e1 1 (by omega)]; exact hM.pS
        · rw [e1 2 (by omega)]; exact hM.pA
        · rw [e2, List.length_append]; show (S.mems.getD h (.new S.many)).pR + 1 = _; rw [hM.pR]; rfl
        · rw [e1 1 (by omega)]; exact hM.cS
        · rw [e1 2 (by omega)]; exact hM.cA
        · rw [e2, cellF_snoc, ← hM.cR]; rfl
        · rw [e1 4 (by omega)]; exact hM.gifts
    · intro _
      rw [hrow]
      exact B.chgB I hh hc m4
    · dsimp only
      rw [hmo, B.hand]
end
end Mir
set_option Elab.async false
set_option linter.all false
set_option maxRecDepth 100000
set_option maxHeartbeats 4000000
namespace Mir
open Sp
section
variable {P : List (List Deed)} {S : HallS} {h : Nat} {w : WorkS} {pl : List (List Deed)} {un : List (Option WorkS)} {bg ow : List Nat} (I : Inv P S) (B : Beg P S h w pl un bg ow) (hh : h < S.many)
include I B hh
theorem run_give {read : Nat} (ex : w.x = .give read) (hf : S.hands.length ≤ 90000) : Inv P (({ S with plans := pl, underway := un, begins := bg, own := ow } : HallS).run h w) := by
  have hx := B.wi.x
  rw [ex] at hx
  obtain ⟨hg, a1, a2, a3, a4, a5⟩ := hx
  have hans : w.ans = .non := B.wi.ans (by intro z; rw [z] at hg; exact hg)
  have hM := I.mem h hh
  have hth := (give_changes hg).2
  by_cases hr : read < S.many
  · have hrow : Mir.un (S.boxes.getD (thing w.deed * S.many + read) 0) = flat (E S.ended 4 read S.hands.length) := by
      rw [hth, I.boxes _ _ (by omega) hr, un_val (by omega) (I.inb 4 _ _ (by omega) (by omega) hr)]; rfl
    have hr2 : stepF S.many S.hands.length S.boxes S.lent (S.mems.getD h (.new S.many)) w = ⟨tkT S.boxes (thing w.deed * S.many + read), S.mems.getD h (.new S.many), S.lent, { w with x := .give (read + 1), stamp := topOf ([w.stamp] ++ lastStamp (flat (E S.ended 4 read S.hands.length))) }, false⟩ := by
      unfold stepF
      rw [ex]
      dsimp only
      rw [if_pos hr, hrow]
    rw [run_goS I B hh hr2 rfl rfl rfl rfl]
    have hst : w.stamp ≤ topOf ([w.stamp] ++ lastStamp (flat (E S.ended 4 read S.hands.length))) ∧ topOf ([w.stamp] ++ lastStamp (flat (E S.ended 4 read S.hands.length))) ≤ S.hands.length ∧ ∀ s ∈ lastStamp (flat (E S.ended 4 read S.hands.length)), s ≤ topOf ([w.stamp] ++ lastStamp (flat (E S.ended 4 read S.hands.length))) := by
      have hle := I.lastLe (k := read) (u := S.hands.length) (Nat.le_refl _)
      unfold lastStamp at hle ⊢
      split
      · rename_i hl
        rw [if_pos hl] at hle
        have h2 := hle _ (List.mem_cons_self ..)
        show w.stamp ≤ topOf [w.stamp, _] ∧ topOf [w.stamp, _] ≤ _ ∧ ∀ s ∈ [_], s ≤ topOf [w.stamp, _]
        rw [topOf2]
        refine ⟨by omega, by omega, fun s hs => ?_⟩
        rw [List.mem_singleton.mp hs]; omega
      · show w.stamp ≤ topOf [w.stamp] ∧ topOf [w.stamp] ≤ _ ∧ _
        rw [topOf1]
        exact ⟨Int.le_refl _, a4, fun s hs => nomatch hs⟩
    refine go_inv I B hh B.hand rfl (fun z => nomatch z) ⟨fun _ => hans, hg, by omega, by omega, ?_, ?_, fun k hk g hgm => ?_⟩
    · have := hst.1; dsimp only; omega
    · have := hst.2.1; dsimp only; omega
    · dsimp only
      by_cases e : k = read
      · subst e
        obtain ⟨i, hi, e2⟩ := List.getElem_of_mem hgm
        have : g ∈ E S.ended 4 k S.hands.length := by
          obtain ⟨r, e3, _⟩ := E_pre (th := 4) (k := k) I.srt B.bn
          rw [e3]; exact List.mem_append_left _ hgm
        obtain ⟨s, e3, e4⟩ := I.last hr g this
        have := hst.2.2 s (by rw [e3]; exact List.mem_cons_self ..)
        omega
      · have := a5 k (by omega) g hgm
        have := hst.1
        omega
  · have hr2 : stepF S.many S.hands.length S.boxes S.lent (S.mems.getD h (.new S.many)) w = ⟨ptT (thing w.deed * S.many + w.hand) (pkN ((S.mems.getD h (.new S.many)).gifts ++ [w.stamp + 1, giveN w.deed])), { S.mems.getD h (.new S.many) with gifts := (S.mems.getD h (.new S.many)).gifts ++ [w.stamp + 1, giveN w.deed] }, S.lent, { w with stamp := w.stamp + 1, moment := S.hands.length }, true⟩ := by
      unfold stepF
      rw [ex]
      dsimp only
      rw [if_neg hr]
    rw [run_endS I B hh hr2 rfl]
    have hfl : ∀ b e, flat (E S.ended 4 h S.hands.length ++ [⟨{ w with stamp := w.stamp + 1, moment := S.hands.length }, b, e⟩]) = (S.mems.getD h (.new S.many)).gifts ++ [w.stamp + 1, giveN w.deed] := fun b e => by
      rw [flat_snoc, hM.gifts]
    refine end_put I B hh (th := 4) rfl B.hand rfl (give_changes hg).1 hth ?_ ?_ rfl ?_ ?_ (.inl ⟨rfl, .inr rfl⟩)
    · dsimp only
      rw [val_snoc (by omega)]
      show _ = ptT _ (pkN (flat _))
      rw [hfl, hth, B.hand]
    · refine ⟨fun z => (by dsimp only at z; rw [z] at hg; exact hg.elim), fun z => (by dsimp only at z; rw [z] at hg; exact hg.elim), fun z => (by dsimp only at z; revert hg z; cases w.deed <;> simp [isLook, isGive]), fun z => (by dsimp only at z; revert hg z; cases w.deed <;> simp [isGive, isChg]), fun _ => ⟨hans, rfl, by dsimp only; omega, by dsimp only; omega, fun k hk g hgm => ?_⟩, fun z => (by dsimp only at z; rw [z] at hg; exact hg.elim)⟩
      dsimp only at hgm ⊢
      rw [E_app B.bn] at hgm
      have := a5 k (by omega) g hgm
      omega
    · intro e1 e2
      refine ⟨?_, ?_, ?_, ?_, ?_, ?_, ?_, ?_⟩
      · rw [e1 0 (by omega)]; exact hM.ones
      · rw [e1 1 (by omega)]; exact hM.pS
      · rw [e1 2 (by omega)]; exact hM.pA
      · rw [e1 3 (by omega)]; exact hM.pR
      · rw [e1 1 (by omega)]; exact hM.cS
      · rw [e1 2 (by omega)]; exact hM.cA
      · rw [e1 3 (by omega)]; exact hM.cR
      · rw [e2, hfl]
    · intro _
      show ∀ x ∈ flat _, inB x
      rw [hfl]
      have hok := B.stepOk I hh hf
      unfold StepOk at hok
      rw [ex] at hok
      exact (hok.2.2 (by omega)).1
theorem run_take {rows : List (List Int)} {again : Bool} (ex : w.x = .take rows again) : Inv P (({ S with plans := pl, underway := un, begins := bg, own := ow } : HallS).run h w) := by
  have hx := B.wi.x
  rw [ex] at hx
  obtain ⟨hd, h0, hrl, ho, lo, a1, a2, a3, a4, a5⟩ := hx
  subst h0
  have hans : w.ans = .non := B.wi.ans (by rw [hd]; exact fun z => nomatch z)
  have hM := I.mem 0 hh
  have hth : thing w.deed = 4 := by rw [hd]; rfl
  have hm := I.m
  have hbn := B.bn
  have hrow : Mir.un (S.boxes.getD (thing w.deed * S.many + rows.length) 0) = flat (E S.ended 4 rows.length S.hands.length) := by
    rw [hth, I.boxes _ _ (by omega) hrl, un_val (by omega) (I.inb 4 _ _ (by omega) (by omega) hrl)]; rfl
  generalize hrw : rows ++ [flat (E S.ended 4 rows.length S.hands.length)] = rows'
  have hrl' : rows'.length = rows.length + 1 := by rw [← hrw]; simp
  have hrd : ∀ k, k < rows'.length → ∃ u, lo ≤ u ∧ u ≤ S.hands.length ∧ rows'.getD k [] = flat (E S.ended 4 k u) := fun k hk => by
    by_cases e : k = rows.length
    · exact ⟨S.hands.length, a2, Nat.le_refl _, by rw [← hrw, getD_append_eq e, e]⟩
    · obtain ⟨u, c1, c2, c3⟩ := a5 k (by omega)
      exact ⟨u, c1, c2, by rw [← hrw, getD_append_lt (by omega)]; exact c3⟩
  have hE : ∀ k, E S.ended 4 k (S.hands.length + 1) = E S.ended 4 k S.hands.length := fun k => I.E_now (by omega)
  have htn : ∀ k, tkn S.ended k (S.hands.length + 1) = tkn S.ended k S.hands.length := fun k => tkn_over (fun d hd => (I.fin d hd).2.1) (by omega)
  have htk : ∀ k, k < S.many → (S.mems.getD 0 (.new S.many)).took.getD k 0 = tkn S.ended k S.hands.length := fun k hk => by
    rw [I.took, List.getD_eq_getElem?_getD, List.getElem?_map, List.getElem?_range hk]; rfl
  by_cases hlt : rows'.length < S.many
  · have hr2 : stepF S.many S.hands.length S.boxes S.lent (S.mems.getD 0 (.new S.many)) w = ⟨tkT S.boxes (thing w.deed * S.many + rows.length), S.mems.getD 0 (.new S.many), S.lent, { w with x := .take rows' again }, false⟩ := by
      unfold stepF
      rw [ex]
      dsimp only
      rw [hrow, hrw, if_pos hlt]
    rw [run_goS I B hh hr2 rfl rfl rfl rfl]
    refine go_inv I B hh B.hand rfl (fun z => nomatch z) ⟨fun _ => hans, hd, rfl, hlt, by omega, lo, a1, by omega, a3, fun z => ?_, fun k hk => ?_⟩
    · obtain ⟨k, c1, c2⟩ := a4 z
      exact ⟨k, c1, by rw [htn]; exact c2⟩
    · obtain ⟨u, c1, c2, c3⟩ := hrd k hk
      exact ⟨u, c1, by omega, c3⟩
  · have hful : rows'.length = S.many := by omega
    -- who has a gift left
    have hleft : ∀ k, k ∈ leftF S.many rows' (S.mems.getD 0 (.new S.many)).took ↔ k < S.many ∧ (2 * tkn S.ended k S.hands.length : Int) < (rows'.getD k []).length := fun k => by
      unfold leftF
      rw [List.mem_filter, List.mem_range]
      constructor
      · rintro ⟨c1, c2⟩
        exact ⟨c1, by rw [htk k c1] at c2; exact of_decide_eq_true c2⟩
      · rintro ⟨c1, c2⟩
        exact ⟨c1, by rw [htk k c1]; exact decide_eq_true c2⟩
    have hlen : ∀ k u, ((flat (E S.ended 4 k u)).length : Int) = 2 * (E S.ended 4 k u).length := fun k u => by rw [flat_len]; omega
    cases hl : leftF S.many rows' (S.mems.getD 0 (.new S.many)).took with
    | nil =>
      have hr2 : stepF S.many S.hands.length S.boxes S.lent (S.mems.getD 0 (.new S.many)) w = ⟨tkT S.boxes (thing w.deed * S.many + rows.length), S.mems.getD 0 (.new S.many), S.lent, { w with x := .take rows' again }, true⟩ := by
        unfold stepF
        rw [ex]
        dsimp only
        rw [hrow, hrw, if_neg hlt, hl]
      have hno : ∀ k, k < S.many → ∀ u, lo ≤ u → (∃ v, u ≤ v ∧ v ≤ S.hands.length ∧ rows'.getD k [] = flat (E S.ended 4 k v)) → (E S.ended 4 k u).length ≤ tkn S.ended k S.hands.length := fun k hk u hu ⟨v, c1, c2, c3⟩ => by
        have h1 : ¬ (k < S.many ∧ (2 * tkn S.ended k S.hands.length : Int) < (rows'.getD k []).length) := fun z => by
          have := (hleft k).mpr z
          rw [hl] at this; cases this
        have h2 := E_len (th := 4) (k := k) I.srt c1
        have h3 := hlen k v
        rw [c3] at h1
        by_cases z : (2 * tkn S.ended k S.hands.length : Int) < ((flat (E S.ended 4 k v)).length : Int)
        · exact absurd ⟨hk, z⟩ h1
        · omega
      have hag : again = false := by
        cases hag : again with
        | false => rfl
        | true =>
          obtain ⟨k, c1, c2⟩ := a4 hag
          obtain ⟨u, c3, c4, c5⟩ := hrd k (by omega)
          have := hno k c1 lo (Nat.le_refl _) ⟨u, c3, c4, c5⟩
          omega
      rw [run_endS I B hh hr2 rfl]
      refine end_take I B hh rfl B.hand rfl (by rw [hd]; exact fun z => z) rfl rfl rfl (fun _ => ?_) ?_
      · rw [I.took]
        refine List.map_congr_left fun k _ => ?_
        rw [tkn_snoc (fun x hx => (I.fin x hx).2.1) rfl (by omega)]
        have : isTk k ⟨{ w with x := .take rows' again }, bg.getD 0 0, S.hands.length⟩ = false := by
          unfold isTk; dsimp only; rw [hans]; simp
        rw [this]; rfl
      · refine ⟨fun z => (by dsimp only at z; rw [hd] at z; cases z), fun z => (by dsimp only at z; rw [hd] at z; cases z), fun z => (by dsimp only at z; rw [hd] at z; exact z.elim), fun z => (by dsimp only at z; rw [hd] at z; exact z.elim), fun z => (by dsimp only at z; rw [hd] at z; exact z.elim), fun _ => ⟨B.hand, .inl ⟨hans, fun k hk => ?_⟩⟩⟩
        dsimp only
        rw [E_app B.bn, tkn_app (Nat.le_refl _)]
        obtain ⟨u, c3, c4, c5⟩ := hrd k (by omega)
        have e := a3 hag
        exact hno k hk (bg.getD 0 0) (by omega) ⟨u, by omega, c4, c5⟩
    | cons k0 r0 =>
      cases hag : again with
      | false =>
        rw [hag] at ho a3 a4 ex
        have hr2 : stepF S.many S.hands.length S.boxes S.lent (S.mems.getD 0 (.new S.many)) w = ⟨tkT S.boxes (thing w.deed * S.many + rows.length), S.mems.getD 0 (.new S.many), S.lent, { w with x := .take [] true }, false⟩ := by
          unfold stepF
          rw [ex]
          dsimp only
          rw [hrow, hrw, if_neg hlt, hl]
          dsimp only
          rw [if_pos rfl]
        rw [run_goS I B hh hr2 rfl rfl rfl rfl]
        refine go_inv I B hh B.hand rfl (fun z => nomatch z) ⟨fun _ => hans, hd, rfl, hm.1, ?_, S.hands.length + 1, by omega, Nat.le_refl _, fun z => (nomatch z), fun _ => ⟨k0, ?_⟩, fun k hk => absurd hk (Nat.not_lt_zero _)⟩
        · have : ow.getD 0 0 = rows.length := by rw [ho]; simp
          rw [this]; simp; omega
        · obtain ⟨c1, c2⟩ := (hleft k0).mp (by rw [hl]; exact List.mem_cons_self ..)
          obtain ⟨u, c3, c4, c5⟩ := hrd k0 (by omega)
          have h2 := E_len (th := 4) (k := k0) I.srt c4
          rw [c5, hlen] at c2
          refine ⟨c1, ?_⟩
          rw [htn, hE k0]
          omega
      | true =>
        rw [hag] at ho a3 a4 ex
        obtain ⟨g1, g2⟩ := leastF_spec (f := rankF rows' (S.mems.getD 0 (.new S.many)).took) r0 k0
        generalize hgg : leastF (rankF rows' (S.mems.getD 0 (.new S.many)).took) k0 r0 = g at g1 g2
        rw [← hl] at g1 g2
        obtain ⟨gm, gl⟩ := (hleft g).mp g1
        have hr2 : stepF S.many S.hands.length S.boxes S.lent (S.mems.getD 0 (.new S.many)) w = ⟨tkT S.boxes (thing w.deed * S.many + rows.length), { S.mems.getD 0 (.new S.many) with took := (S.mems.getD 0 (.new S.many)).took.set g (tkn S.ended g S.hands.length + 1) }, S.lent,
            { w with x := .take rows' true, giver := g, nth := tkn S.ended g S.hands.length, ans := .int ((rows'.getD g []).getD (2 * (tkn S.ended g S.hands.length : Int) + 1).toNat 0), moment := S.hands.length }, true⟩ := by
          unfold stepF
          rw [ex]
          dsimp only
          rw [hrow, hrw, if_neg hlt, hl]
          dsimp only
          rw [if_neg (fun z => nomatch z), hgg, htk g gm]
        -- a gift read, its stamp and its number
        have hgift : ∀ k, k < S.many → ∀ u, u ≤ S.hands.length → rows'.getD k [] = flat (E S.ended 4 k u) → ∀ G, (E S.ended 4 k u)[tkn S.ended k S.hands.length]? = some G → rankF rows' (S.mems.getD 0 (.new S.many)).took k = G.work.stamp ∧ (rows'.getD k []).getD (2 * (tkn S.ended k S.hands.length : Int) + 1).toNat 0 = giveN G.work.deed := fun k hk u hu e G hG => by
          obtain ⟨f1, f2⟩ := flat_at hG
          unfold rankF
          rw [htk k hk, e]
          constructor
          · rw [List.getD_eq_getElem?_getD, show (2 * (tkn S.ended k S.hands.length : Int)).toNat = 2 * tkn S.ended k S.hands.length by omega, f1]; rfl
          · rw [List.getD_eq_getElem?_getD, show (2 * (tkn S.ended k S.hands.length : Int) + 1).toNat = 2 * tkn S.ended k S.hands.length + 1 by omega, f2]; rfl
        obtain ⟨ug, d1, d2, d3⟩ := hrd g (by omega)
        rw [d3, hlen] at gl
        have hGl : tkn S.ended g S.hands.length < (E S.ended 4 g ug).length := by omega
        have hG := List.getElem?_eq_getElem hGl
        generalize (E S.ended 4 g ug)[tkn S.ended g S.hands.length] = G at hG
        obtain ⟨e1, e2⟩ := hgift g gm ug d2 d3 G hG
        have hGn : (E S.ended 4 g S.hands.length)[tkn S.ended g S.hands.length]? = some G := by rw [E_at I.srt d2 hGl]; exact hG
        have hGm := E_mem.mp (List.mem_of_getElem? hG)
        obtain ⟨_, _, _, _, hGs⟩ := (I.fact G hGm.1).give (isGive_of (isCh_iff.mpr hGm.2.1))
        have hGb := (I.fin G hGm.1).1
        -- the rank of another one that has a gift left
        have hrank : ∀ k u, k < S.many → lo ≤ u → tkn S.ended k S.hands.length < (E S.ended 4 k lo).length → ∃ X, (E S.ended 4 k lo)[tkn S.ended k S.hands.length]? = some X ∧ G.work.stamp ≤ X.work.stamp := fun k _ hk _ hX => by
          obtain ⟨u, c3, c4, c5⟩ := hrd k (by omega)
          have hx := List.getElem?_eq_getElem hX
          generalize (E S.ended 4 k lo)[tkn S.ended k S.hands.length] = X at hx
          have hxu : (E S.ended 4 k u)[tkn S.ended k S.hands.length]? = some X := by rw [E_at I.srt c3 hX]; exact hx
          have h2 := E_len (th := 4) (k := k) I.srt c3
          have hin := (hleft k).mpr ⟨hk, by rw [c5, hlen]; omega⟩
          have := g2 k hin
          rw [e1, (hgift k hk u c4 c5 X hxu).1] at this
          exact ⟨X, hx, this⟩
        have hlo : G.b ≤ lo := by
          obtain ⟨k, c1, c2⟩ := a4 rfl
          obtain ⟨X, x1, x2⟩ := hrank k lo c1 (Nat.le_refl _) c2
          by_cases z : G.b ≤ lo
          · exact z
          · have hXm : X ∈ E S.ended 4 k G.b := by
              obtain ⟨b1, b2, b3⟩ := E_mem.mp (List.mem_of_getElem? x1)
              exact E_mem.mpr ⟨b1, b2, by omega⟩
            have := hGs k c1 X hXm
            omega
        have hall : ∀ k, k < S.many → (E S.ended 4 k G.b).length ≤ tkn S.ended k S.hands.length := fun k hk => by
          by_cases z : (E S.ended 4 k G.b).length ≤ tkn S.ended k S.hands.length
          · exact z
          · have hl1 := E_len (th := 4) (k := k) I.srt hlo
            obtain ⟨X, x1, x2⟩ := hrank k lo hk (Nat.le_refl _) (by omega)
            have hXm : X ∈ E S.ended 4 k G.b := by
              rw [E_at I.srt hlo (show tkn S.ended k S.hands.length < (E S.ended 4 k G.b).length by omega)] at x1
              exact List.mem_of_getElem? x1
            have := hGs k hk X hXm
            omega
        rw [run_endS I B hh hr2 rfl]
        refine end_take I B hh rfl B.hand rfl (by rw [hd]; exact fun z => z) rfl rfl rfl (fun _ => ?_) ?_
        · dsimp only
          rw [I.took]
          refine List.ext_getElem? fun k => ?_
          have hisT : ∀ b e, isTk k ⟨{ w with x := .take rows' true, giver := g, nth := tkn S.ended g S.hands.length, ans := .int ((rows'.getD g []).getD (2 * (tkn S.ended g S.hands.length : Int) + 1).toNat 0), moment := S.hands.length }, b, e⟩ = decide (g = k) := fun b e => by
            unfold isTk; dsimp only; rw [hd]; simp
          by_cases hk : k < S.many
          · rw [List.getElem?_map, List.getElem?_range hk]
            simp only [Option.map_some]
            rw [tkn_snoc (fun x hx => (I.fin x hx).2.1) rfl (by omega), hisT]
            by_cases e : g = k
            · subst e
              rw [List.getElem?_set_self (by simp [gm])]
              simp
            · rw [List.getElem?_set_ne e, List.getElem?_map, List.getElem?_range hk]
              simp [e]
          · rw [List.getElem?_eq_none (by simp; omega), List.getElem?_eq_none (by simp; omega)]
        · refine ⟨fun z => (by dsimp only at z; rw [hd] at z; cases z), fun z => (by dsimp only at z; rw [hd] at z; cases z), fun z => (by dsimp only at z; rw [hd] at z; exact z.elim), fun z => (by dsimp only at z; rw [hd] at z; exact z.elim), fun z => (by dsimp only at z; rw [hd] at z; exact z.elim), fun _ => ⟨B.hand, .inr ⟨G, gm, ?_, ?_, ?_, fun k hk => ?_⟩⟩⟩
          · dsimp only
            rw [tkn_app (Nat.le_refl _)]
          · dsimp only
            rw [tkn_app (Nat.le_refl _), E_app (Nat.le_refl _)]
            exact hGn
          · dsimp only
            rw [e2]
          · dsimp only
            rw [tkn_app (Nat.le_refl _), E_app (show G.b ≤ S.hands.length by omega)]
            exact hall k hk
theorem run_inv (hf : S.hands.length ≤ 90000) : Inv P (({ S with plans := pl, underway := un, begins := bg, own := ow } : HallS).run h w) := by
  cases e : w.x with
  | one => exact run_one I B hh e
  | count row => exact run_count I B hh e
  | look s => exact run_look I B hh e
  | change s => exact run_change I B hh e
  | give read => exact run_give I B hh e hf
  | take rows again => exact run_take I B hh e
end
theorem step_inv {P : List (List Deed)} {S : HallS} {h : Nat} (I : Inv P S) (hh : h < S.many) (hf : S.hands.length ≤ 90000) : Inv P (S.step h).1 := by
  unfold HallS.step
  cases e : S.begun h with
  | none => exact I
  | some q =>
    obtain ⟨S1, w⟩ := q
    obtain ⟨pl, un, bg, ow, rfl, B⟩ := begun_beg I hh e
    exact run_inv I B hh hf
theorem step_ok {P : List (List Deed)} {S : HallS} {h : Nat} (I : Inv P S) (hh : h < S.many) (hf : S.hands.length ≤ 90000) : StepOkH S h := by
  intro S1 w e
  obtain ⟨pl, un, bg, ow, rfl, B⟩ := begun_beg I hh e
  show StepOk S.many S.boxes S.lent (S.mems.getD h (.new S.many)) w
  exact B.stepOk I hh hf
end Mir
set_option Elab.async false
set_option linter.all false
set_option maxRecDepth 100000
set_option maxHeartbeats 4000000
namespace Mir
open Sp
theorem getD_rep {α : Type} {n i : Nat} {x d : α} (h : i < n) : (List.replicate n x).getD i d = x := by
  rw [List.getD_eq_getElem?_getD, List.getElem?_replicate, if_pos h]; rfl
noncomputable def PlanOk (P : List (List Deed)) : Prop := (1 ≤ P.length ∧ P.length ≤ 4) ∧ ∀ h, h < P.length → (P.getD h []).length ≤ 40 ∧ ∀ d ∈ P.getD h [], d.ok ∧ (d = .take → h = 0)
theorem new_inv {P : List (List Deed)} (h : PlanOk P) : Inv P (.new P) := by
  have hE : ∀ th k u, E [] th k u = [] := fun _ _ _ => rfl
  refine { m := h.1, lp := rfl, lplans := rfl, lboxes := by simp [HallS.new], lmems := by simp [HallS.new], lunder := by simp [HallS.new], lbegins := by simp [HallS.new], lown := by simp [HallS.new], hl := rfl, plan := fun k hk => ?_, pok := h.2, srt := .nil, fin := fun d hd => (nomatch hd), seq := .nil, nb := fun d hd => (nomatch hd), under := fun k hk w hw => ?_, boxes := fun th k a b => ?_, mem := fun k hk => ?_, took := ?_, lent1 := fun th k a b c i d hd => ?_, lent2 := fun th k n a b c hn => rfl, inb := fun th k u a b c x hx => ?_, fact := fun d hd => (nomatch hd), lentl := Nat.le_refl _ }
  · have hk : k < P.length := hk
    show [] ++ ((List.replicate P.length none).getD k none).toList.map _ ++ P.getD k [] = _
    rw [getD_rep hk]; rfl
  · have hk : k < P.length := hk
    change (List.replicate P.length none).getD k none = some w at hw
    rw [getD_rep hk] at hw; cases hw
  · show (List.replicate (5 * P.length) 0).getD (th * P.length + k) 0 = val th []
    have := Nat.mul_le_mul_right P.length (show th ≤ 4 by omega)
    have b : k < P.length := b
    rw [getD_rep (by omega), val_nil]
  · show MemOk [] k 0 ((List.replicate P.length (MemS.new P.length)).getD k _)
    have hk : k < P.length := hk
    rw [getD_rep hk]
    exact ⟨rfl, rfl, rfl, rfl, rfl, rfl, rfl, rfl⟩
  · show ((List.replicate P.length (MemS.new P.length)).getD 0 _).took = (List.range P.length).map fun k => (tkn [] k 0 : Int)
    rw [getD_rep (by have := h.1; omega)]
    show List.replicate P.length 0 = _
    refine List.ext_getElem? fun k => ?_
    by_cases hk : k < P.length
    · rw [List.getElem?_map, List.getElem?_range hk, List.getElem?_replicate, if_pos hk]; rfl
    · rw [List.getElem?_eq_none (by simp; omega), List.getElem?_eq_none (by simp; omega)]
  · change (E [] th k 0)[i]? = some d at hd
    rw [hE] at hd; simp at hd
  · change x ∈ rowV th (E [] th k u) at hx
    rw [hE, rowV_nil] at hx; cases hx
theorem sorted_len {es : List DoneS} {t : Nat} (hs : es.Pairwise fun a b => a.e < b.e) (h : ∀ d ∈ es, d.e < t) : es.length ≤ t := by
  have : (es.map (·.e)).length ≤ t := nodup_len (by
    rw [List.Nodup, List.pairwise_map]
    exact hs.imp fun h => by omega) fun k hk => by
    obtain ⟨d, hd, rfl⟩ := List.mem_map.mp hk
    exact h d hd
  simpa using this
theorem Inv.wf {P : List (List Deed)} {S : HallS} (I : Inv P S) (hf : S.hands.length ≤ 90000) : Wf S := by
  have hm := I.m
  refine ⟨by omega, I.lplans, I.lboxes, I.lmems, I.lunder, I.lbegins, I.lown, I.hl, ⟨by rw [← I.hl]; exact hf, by have := I.lentl; omega, by have := sorted_len I.srt fun d hd => (I.fin d hd).2.1; omega, fun p hp => ?_⟩, fun h w hw => ?_⟩
  · obtain ⟨k, hk, e⟩ := List.getElem_of_mem hp
    rw [I.lplans] at hk
    have h1 := I.plan k hk
    have h2 := (I.pok k hk).1
    have h3 := congrArg List.length h1
    simp only [List.length_append, List.length_map] at h3
    have : S.plans.getD k [] = p := by rw [List.getD_eq_getElem?_getD, List.getElem?_eq_getElem (by rw [I.lplans]; exact hk)]; exact e
    rw [this] at h3
    omega
  · by_cases hh : h < S.many
    · rw [(I.under h hh w hw).2.1]; exact hh
    · rw [List.getD_eq_getElem?_getD, List.getElem?_eq_none (by rw [I.lunder]; omega)] at hw
      cases hw
theorem begun_many {S S1 : HallS} {h : Nat} {w : WorkS} (e : S.begun h = some (S1, w)) : S1.many = S.many ∧ S1.hands = S.hands := by
  unfold HallS.begun at e
  split at e
  · cases e; exact ⟨rfl, rfl⟩
  · split at e
    · cases e
    · cases e; exact ⟨rfl, rfl⟩
theorem run_many {S : HallS} {h : Nat} {w : WorkS} : (S.run h w).many = S.many ∧ (S.run h w).hands = S.hands ++ [h] := by
  unfold HallS.run
  dsimp only
  split <;> exact ⟨rfl, rfl⟩
theorem step_many {S : HallS} {h : Nat} : (S.step h).1.many = S.many ∧ (S.step h).1.hands = S.hands ++ if (S.step h).2 then [h] else [] := by
  unfold HallS.step
  cases e : S.begun h with
  | none => simp
  | some q =>
    obtain ⟨S1, w⟩ := q
    obtain ⟨a, b⟩ := begun_many e
    obtain ⟨c, d⟩ := run_many (S := S1) (h := h) (w := w)
    dsimp only
    exact ⟨c.trans a, by rw [d, b]; rfl⟩
theorem step_len {S : HallS} {h : Nat} : (S.step h).1.hands.length ≤ S.hands.length + 1 := by
  rw [step_many.2, List.length_append]
  split <;> simp
theorem weave_inv {P : List (List Deed)} : ∀ {row : List Nat} {S : HallS}, Inv P S → (∀ h ∈ row, h < S.many) → S.hands.length + row.length ≤ 90000 → Inv P (S.weave row).1 ∧ (S.weave row).1.many = S.many ∧ (S.weave row).1.hands.length ≤ S.hands.length + row.length
  | [], S, I, _, _ => ⟨I, rfl, Nat.le_refl _⟩
  | h :: r, S, I, hr, hf => by
    rw [List.length_cons] at hf
    have hl := step_len (S := S) (h := h)
    have hm := (step_many (S := S) (h := h)).1
    have I1 := step_inv I (hr h (List.mem_cons_self ..)) (by omega)
    obtain ⟨a, b, c⟩ := weave_inv (row := r) I1 (fun k hk => by rw [hm]; exact hr k (List.mem_cons_of_mem _ hk)) (by omega)
    refine ⟨a, b.trans hm, ?_⟩
    show ((S.step h).1.weave r).1.hands.length ≤ _
    rw [List.length_cons]; omega
end Mir
set_option Elab.async false
set_option linter.all false
set_option maxRecDepth 100000
set_option maxHeartbeats 4000000
namespace Mir
open Sp
noncomputable def Fp (p : DoneS → Bool) (es : List DoneS) (u : Nat) : List DoneS := es.filter fun d => p d && decide (d.e < u)
end Mir
set_option Elab.async false
set_option linter.all false
set_option maxRecDepth 100000
set_option maxHeartbeats 4000000
namespace Mir
open Sp
noncomputable def isTaken (d : DoneS) : Bool := decide (d.work.deed = .take) && decide (d.work.ans ≠ .non)
noncomputable def isGv (d : DoneS) : Bool := match d.work.deed with
  | .give _ => true
  | _ => false
noncomputable def takes (es : List DoneS) : List DoneS := es.filter isTaken
noncomputable def giftOf (es : List DoneS) (t : Nat) (T : DoneS) : DoneS := (E es 4 T.work.giver t).getD T.work.nth.toNat default
structure LineOk (es : List DoneS) (t : Nat) (L RS : List DoneS) : Prop where
  eq : L = (takes es).map (giftOf es t) ++ RS
  nd : RS.Nodup
  mem : ∀ d, d ∈ RS ↔ d ∈ es ∧ isGv d = true ∧ d ∉ (takes es).map (giftOf es t)
  srt : RS.Pairwise fun a b => a.work.stamp ≤ b.work.stamp
noncomputable def sufMin (M0 : Int) : List Int → Int
  | [] => M0
  | x :: r => min (sufMin M0 r) x
end Mir
set_option Elab.async false
set_option linter.all false
set_option maxRecDepth 100000
set_option maxHeartbeats 4000000
namespace Mir
open Sp
noncomputable abbrev K3 := Int × Int × Int
noncomputable def isOne (d : DoneS) : Bool := decide (d.work.deed = .one)
noncomputable def onesOf (es : List DoneS) : List Int := (es.filter isOne).map (·.work.moment)
noncomputable def momF (es : List DoneS) (d : DoneS) : K3 := match d.work.deed with
  | .one => (d.work.moment, 0, 0) | .set _ => (d.work.moment, 0, 0) | .add _ => (d.work.moment, 0, 0) | .raise _ => (d.work.moment, 0, 0)
  | .look => (d.work.moment, 1, 0) | .sum => (d.work.moment, 1, 0) | .top => (d.work.moment, 1, 0)
  | .take => if d.work.ans = .non then ((d.b : Int), 1, 0) else ((d.e : Int), 1, 0)
  | _ => match d.work.ans with
    | .int a => if a = 0 then ((d.b : Int), 1, 0) else (max (d.b : Int) ((onesOf es).getD (a - 1).toNat 0), 1, 0)
    | _ => ((d.b : Int), 1, 0)
noncomputable def lt3 (a b : K3) : Prop := a.1 < b.1 ∨ (a.1 = b.1 ∧ (a.2.1 < b.2.1 ∨ (a.2.1 = b.2.1 ∧ a.2.2 < b.2.2)))
noncomputable def kLe (key : DoneS → K3) (a b : DoneS) : Prop := lt3 (key a) (key b) ∨ (key a = key b ∧ a.e ≤ b.e)
structure OrdOk (S : HallS) (L RS : List DoneS) (M0 : Int) (key : DoneS → K3) (O : List DoneS) : Prop where
  line : LineOk S.ended S.hands.length L RS
  kg : ∀ i d, L[i]? = some d → key d = (sufMin M0 ((L.map (·.work.moment)).drop i), 0, (i : Int))
  km : ∀ d ∈ S.ended, isGv d = false → key d = momF S.ended d
  big : ∀ d ∈ L, d.work.moment ≤ M0
  perm : O.Perm S.ended
  srt : O.Pairwise (kLe key)
theorem sum_ones {m u : Nat} : ∀ {l : List DoneS}, (∀ d ∈ l, d.work.hand < m) → ((List.range m).map fun k => (l.filter (isCh 0 k)).length).sum = (l.filter isOne).length
  | [], _ => by
    have z : ∀ n, ((List.range n).map fun _ => 0).sum = 0 := fun n => by
      induction n with
      | zero => rfl
      | succ n ih => rw [List.range_succ, List.map_append, List.sum_append, ih]; simp
    exact z m
  | d :: l, h => by
    have ih := sum_ones (m := m) (u := u) (l := l) fun x hx => h x (List.mem_cons_of_mem _ hx)
    have hm := h d (List.mem_cons_self ..)
    have hone : d.work.deed = .one ↔ (d.work.deed.changes ∧ thing d.work.deed = 0) := by cases d.work.deed <;> simp [Deed.changes, thing]
    have e : ∀ k, ((d :: l).filter (isCh 0 k)).length = (l.filter (isCh 0 k)).length + if isOne d = true ∧ d.work.hand = k then 1 else 0 := fun k => by
      rw [List.filter_cons]
      by_cases z : isCh 0 k d = true
      · obtain ⟨a, b, c⟩ := isCh_iff.mp z
        rw [if_pos z, if_pos ⟨by unfold isOne; exact decide_eq_true (hone.mpr ⟨a, b⟩), c⟩]; rfl
      · rw [if_neg z, if_neg]
        · rfl
        · rintro ⟨a, b⟩
          unfold isOne at a
          have := hone.mp (of_decide_eq_true a)
          exact z (isCh_iff.mpr ⟨this.1, this.2, b⟩)
    simp only [e]
    have key : ∀ n (f : Nat → Nat) h, ((List.range n).map fun k => f k + if isOne d = true ∧ h = k then 1 else 0).sum = ((List.range n).map f).sum + if isOne d = true ∧ h < n then 1 else 0 := by
      intro n f h
      induction n with
      | zero => simp
      | succ n ih =>
        rw [List.range_succ, List.map_append, List.map_append, List.sum_append, List.sum_append, ih]
        simp only [List.map_cons, List.map_nil, List.sum_cons, List.sum_nil]
        by_cases z : isOne d = true
        · simp only [z, true_and]
          split <;> split <;> split <;> omega
        · simp [z]
    rw [key, ih, List.filter_cons]
    by_cases z : isOne d = true
    · rw [if_pos ⟨z, hm⟩, if_pos z]; rfl
    · rw [if_neg (fun y => z y.1), if_neg z]; rfl
section
variable {P : List (List Deed)} {S : HallS} (I : Inv P S)
include I
theorem Inv.cnt {u : Nat} : cntS S.ended S.many u = (Fp isOne S.ended u).length := by
  have h := sum_ones (m := S.many) (u := 0) (l := S.ended.filter fun d => decide (d.e < u)) fun d hd => (I.fin d (List.mem_filter.mp hd).1).2.2
  unfold cntS Fp
  have e1 : ∀ k, E S.ended 0 k u = (S.ended.filter fun d => decide (d.e < u)).filter (isCh 0 k) := fun k => by
    unfold E; rw [List.filter_filter]
  simp only [e1]
  rw [h, List.filter_filter]
variable {L RS O : List DoneS} {M0 : Int} {key : DoneS → K3} (K : OrdOk S L RS M0 key O)
include K
variable {pre post : List DoneS} {q : DoneS} (hO : O = pre ++ q :: post)
include hO
end
end Mir
set_option Elab.async false
set_option linter.all false
set_option maxRecDepth 100000
set_option maxHeartbeats 4000000
namespace Mir
open Sp
noncomputable abbrev Cr := Int × Deed × Int × Int × Ans
noncomputable def crD (d : DoneS) : Cr := ((d.work.hand : Int), d.work.deed, (d.b : Int), (d.e : Int), d.work.ans)
theorem filter_crD {es : List DoneS} {p : DoneS → Bool} {q : Cr → Bool} (h : ∀ d ∈ es, q (crD d) = p d) : ((es.map crD).filter q).length = (es.filter p).length := by
  rw [List.filter_map, List.length_map]
  congr 1
  exact List.filter_congr h
theorem law19 {P : List (List Deed)} {S : HallS} (I : Inv P S) {c : Cr} (hc : c ∈ S.ended.map crD) (hd : c.2.1 = .count) :
    ∃ a : Nat, c.2.2.2.2 = .int a ∧ ((S.ended.map crD).filter fun o => decide (o.2.1 = .one) && decide (o.2.2.2.1 < c.2.2.1)).length ≤ a ∧
      a ≤ ((S.ended.map crD).filter fun o => decide (o.2.1 = .one) && decide (o.2.2.1 < c.2.2.2.1)).length ∧
      ∀ o ∈ S.ended.map crD, o.2.1 = .count → o.2.2.2.1 < c.2.2.1 → ∀ k, o.2.2.2.2 = .int k → k ≤ a := by
  obtain ⟨d, hdm, rfl⟩ := List.mem_map.mp hc
  obtain ⟨a, h1, h2, h3⟩ := (I.fact d hdm).count hd
  have lo : ((S.ended.map crD).filter fun o => decide (o.2.1 = .one) && decide (o.2.2.2.1 < (crD d).2.2.1)).length = cntS S.ended S.many d.b := by
    rw [I.cnt]
    refine filter_crD fun x hx => ?_
    exact congrArg (isOne x && ·) (decide_eq_decide.mpr Int.ofNat_lt)
  have hi : ((S.ended.map crD).filter fun o => decide (o.2.1 = .one) && decide (o.2.2.1 < (crD d).2.2.2.1)).length = cntS S.ended S.many d.e := by
    rw [I.cnt]
    refine filter_crD fun x hx => ?_
    by_cases z : x.work.deed = .one
    · have e := ((I.fact x hx).one z).2.2
      show (isOne x && decide ((x.b : Int) < (d.e : Int))) = (isOne x && decide (x.e < d.e))
      rw [e]
      exact congrArg (isOne x && ·) (decide_eq_decide.mpr Int.ofNat_lt)
    · have z2 : isOne x = false := decide_eq_false z
      show (isOne x && _) = _
      rw [z2]; rfl
  refine ⟨a, h1, by rw [lo]; exact h2, by rw [hi]; exact h3, fun o ho hod hlt k hk => ?_⟩
  obtain ⟨d2, hd2, rfl⟩ := List.mem_map.mp ho
  obtain ⟨a2, g1, g2, g3⟩ := (I.fact d2 hd2).count hod
  have hk2 : (Ans.int (a2 : Int)) = .int k := g1.symm.trans hk
  have hk3 : (a2 : Int) = k := by injection hk2
  subst hk3
  have hlt2 : d2.e < d.b := Int.ofNat_lt.mp hlt
  have mono : cntS S.ended S.many d2.e ≤ cntS S.ended S.many d.b := by
    rw [I.cnt, I.cnt]
    unfold Fp
    have : (S.ended.filter fun x => isOne x && decide (x.e < d2.e)) = ((S.ended.filter fun x => isOne x && decide (x.e < d.b)).filter fun x => decide (x.e < d2.e)) := by
      rw [List.filter_filter]
      refine List.filter_congr fun x _ => ?_
      by_cases z : x.e < d2.e
      · rw [decide_eq_true z, decide_eq_true (show x.e < d.b by omega)]; simp
      · rw [decide_eq_false z]; simp
    rw [this]
    exact List.length_filter_le _ _
  exact_mod_cast (by omega : a2 ≤ a)
theorem law19_one {P : List (List Deed)} {S : HallS} (I : Inv P S) {c : Cr} (hc : c ∈ S.ended.map crD) (hd : c.2.1 = .one) : c.2.2.2.2 = .non := by
  obtain ⟨d, hdm, rfl⟩ := List.mem_map.mp hc
  exact ((I.fact d hdm).one hd).1
end Mir
set_option Elab.async false
set_option linter.all false
set_option maxRecDepth 100000
set_option maxHeartbeats 4000000
namespace Sp
open PySem PySem.Spec PyProof.Rows L2 Mir
@[irreducible] noncomputable def optC (v : V) : Option (List Int) → HP
  | none => pur (v = .non)
  | some l => exh fun p => grp [pur (v = .ref p), pt p (.lst (l.map V.int))]
noncomputable def mvK (mv : List Nat) : List (Key × V) := mv.map fun (k : Nat) => (Sum.inl (k : Int), V.bl true)
noncomputable def lentK (l : Lent) : List (List Key × V) := l.map fun e => ([Sum.inl (e.1.1 : Int), Sum.inl e.1.2], V.int e.2)
@[irreducible] noncomputable def eachR (n : Nat) (f : Nat → HP) : HP := grp ((List.range n).map f)
noncomputable def emp : HP := grp []
noncomputable def hole (f : Nat → HP) (i : Nat) : Nat → HP := fun k => if k = i then emp else f k
@[irreducible] noncomputable def listsC (q : Addr) (rows : List (List Int)) : HP :=
  exh fun as : { as : List Addr // as.length = rows.length } => grp [pt q (.lst (as.1.map V.ref)), eachR rows.length fun i => pt (as.1.getD i 0) (.lst ((rows.getD i []).map V.int))]
@[irreducible] noncomputable def scanC {K : PySem.W.Frag} {names : List Str} (I : CI K names) (a : Addr) (first many : Nat) (s : ScanS) : HP :=
  exh fun q : Addr × Addr × V × V => grp [obj I a [("first", .int first), ("many", .int many), ("ahead", q.2.2.1), ("row", .ref q.1), ("moved", .ref q.2.1), ("until", .int s.upto), ("view", q.2.2.2), ("moment", .int s.moment)],
    pt q.1 (.lst (s.row.map V.int)),
    pt q.2.1 (.dK (mvK s.moved)),
    optC q.2.2.1 s.ahead,
    optC q.2.2.2 s.view]
theorem open_scanC {K : PySem.W.Frag} {names : List Str} {I : CI K names} {ps R : List HP} {a : Addr} {first many : Nat} {s : ScanS} {H : Hp} (pk : Pick (scanC I a first many s) ps R) (zs : Sat H ps) : ∃ z : Addr × Addr × V × V, Sat H (obj I a [("first", .int first), ("many", .int many), ("ahead", z.2.2.1), ("row", .ref z.1), ("moved", .ref z.2.1), ("until", .int s.upto), ("view", z.2.2.2), ("moment", .int s.moment)] :: pt z.1 (.lst (s.row.map V.int)) :: pt z.2.1 (.dK (mvK s.moved)) :: optC z.2.2.1 s.ahead :: optC z.2.2.2 s.view :: R) := by
  have zs := zs.perm pk.perm
  unfold scanC at zs
  obtain ⟨q, zs⟩ := Sat.ex.mp zs
  exact ⟨q, Sat.grp.mp zs⟩
theorem fldG_scanC {K : PySem.W.Frag} {names : List Str} {I : CI K names} {ps R : List HP} {a : Addr} {first many : Nat} {s : ScanS} {f : Str} {Φ : V → List HP → Prop} (pk : Pick (scanC I a first many s) ps R) (h : ∀ (q1 : Addr) (q2 : Addr) (v1 : V) (v2 : V), FldG K (.ref a) f (obj I a [("first", .int first), ("many", .int many), ("ahead", v1), ("row", .ref q1), ("moved", .ref q2), ("until", .int s.upto), ("view", v2), ("moment", .int s.moment)] :: pt q1 (.lst (s.row.map V.int)) :: pt q2 (.dK (mvK s.moved)) :: optC v1 s.ahead :: optC v2 s.view :: R) Φ) : FldG K (.ref a) f ps Φ := FldG.open (fun H s => open_scanC pk s) fun z => h z.1 z.2.1 z.2.2.1 z.2.2.2
theorem fldS_scanC {K : PySem.W.Frag} {names : List Str} {I : CI K names} {ps R : List HP} {a : Addr} {first many : Nat} {s : ScanS} {f : Str} {y : V} {k : List HP → Prop} (pk : Pick (scanC I a first many s) ps R) (h : ∀ (q1 : Addr) (q2 : Addr) (v1 : V) (v2 : V), FldS K (.ref a) f y (obj I a [("first", .int first), ("many", .int many), ("ahead", v1), ("row", .ref q1), ("moved", .ref q2), ("until", .int s.upto), ("view", v2), ("moment", .int s.moment)] :: pt q1 (.lst (s.row.map V.int)) :: pt q2 (.dK (mvK s.moved)) :: optC v1 s.ahead :: optC v2 s.view :: R) k) : FldS K (.ref a) f y ps k := FldS.open (fun H s => open_scanC pk s) fun z => h z.1 z.2.1 z.2.2.1 z.2.2.2
theorem opn_scanC {K : PySem.W.Frag} {names : List Str} {I : CI K names} {ps R : List HP} {a : Addr} {first many : Nat} {s : ScanS} (pk : Pick (scanC I a first many s) ps R) : Opn ps fun z : Addr × Addr × V × V => obj I a [("first", .int first), ("many", .int many), ("ahead", z.2.2.1), ("row", .ref z.1), ("moved", .ref z.2.1), ("until", .int s.upto), ("view", z.2.2.2), ("moment", .int s.moment)] :: pt z.1 (.lst (s.row.map V.int)) :: pt z.2.1 (.dK (mvK s.moved)) :: optC z.2.2.1 s.ahead :: optC z.2.2.2 s.view :: R := fun H s => open_scanC pk s
theorem ent_scanC {K : PySem.W.Frag} {names : List Str} {I : CI K names} {R : List HP} {a : Addr} {first many : Nat} {s : ScanS} {q1 : Addr} {q2 : Addr} {v1 : V} {v2 : V} : Ent (obj I a [("first", .int first), ("many", .int many), ("ahead", v1), ("row", .ref q1), ("moved", .ref q2), ("until", .int s.upto), ("view", v2), ("moment", .int s.moment)] :: pt q1 (.lst (s.row.map V.int)) :: pt q2 (.dK (mvK s.moved)) :: optC v1 s.ahead :: optC v2 s.view :: R) (scanC I a first many s :: R) := fun H z => by
  unfold scanC
  exact Sat.ex.mpr ⟨(q1, q2, v1, v2), Sat.grp.mpr z⟩
theorem meth_scanC {K : PySem.W.Frag} {names : List Str} {I : CI K names} {ps : List HP} {a : Addr} {first many : Nat} {s : ScanS} {f : Str} {k : List HP → Prop} (h : scanC I a first many s ∈ ps) (p : (["first", "many", "ahead", "row", "moved", "until", "view", "moment"] : List Str) = names) (n : f ∉ names) (q : k ps) : MethG I.C f (.ref a) ps k :=
  methC h (fun H R z => by
    obtain ⟨q, z⟩ := open_scanC (.hd) z
    obtain ⟨dx, e⟩ := z.obj (List.mem_cons_self ..)
    exact ⟨dx, _, e, lookup_not fun y => n (by rw [← p]; exact y)⟩) q
@[irreducible] noncomputable def memC {K : PySem.W.Frag} {names : List Str} (I : CI K names) (a : Addr) (m : MemS) : HP :=
  exh fun q : Addr × Addr × Addr × Addr => grp [obj I a [("ones", .int m.ones), ("puts", .ref q.1), ("cells", .ref q.2.1), ("gifts", .ref q.2.2.1), ("took", .ref q.2.2.2)],
    pt q.1 (.dK [(Sum.inr "set", .int m.pS), (Sum.inr "add", .int m.pA), (Sum.inr "raise", .int m.pR)]),
    pt q.2.1 (.dK [(Sum.inr "set", .int m.cS), (Sum.inr "add", .int m.cA), (Sum.inr "raise", .int m.cR)]),
    pt q.2.2.1 (.lst (m.gifts.map V.int)),
    pt q.2.2.2 (.lst (m.took.map V.int))]
theorem open_memC {K : PySem.W.Frag} {names : List Str} {I : CI K names} {ps R : List HP} {a : Addr} {m : MemS} {H : Hp} (pk : Pick (memC I a m) ps R) (zs : Sat H ps) : ∃ z : Addr × Addr × Addr × Addr, Sat H (obj I a [("ones", .int m.ones), ("puts", .ref z.1), ("cells", .ref z.2.1), ("gifts", .ref z.2.2.1), ("took", .ref z.2.2.2)] :: pt z.1 (.dK [(Sum.inr "set", .int m.pS), (Sum.inr "add", .int m.pA), (Sum.inr "raise", .int m.pR)]) :: pt z.2.1 (.dK [(Sum.inr "set", .int m.cS), (Sum.inr "add", .int m.cA), (Sum.inr "raise", .int m.cR)]) :: pt z.2.2.1 (.lst (m.gifts.map V.int)) :: pt z.2.2.2 (.lst (m.took.map V.int)) :: R) := by
  have zs := zs.perm pk.perm
  unfold memC at zs
  obtain ⟨q, zs⟩ := Sat.ex.mp zs
  exact ⟨q, Sat.grp.mp zs⟩
theorem fldG_memC {K : PySem.W.Frag} {names : List Str} {I : CI K names} {ps R : List HP} {a : Addr} {m : MemS} {f : Str} {Φ : V → List HP → Prop} (pk : Pick (memC I a m) ps R) (h : ∀ (q1 : Addr) (q2 : Addr) (q3 : Addr) (q4 : Addr), FldG K (.ref a) f (obj I a [("ones", .int m.ones), ("puts", .ref q1), ("cells", .ref q2), ("gifts", .ref q3), ("took", .ref q4)] :: pt q1 (.dK [(Sum.inr "set", .int m.pS), (Sum.inr "add", .int m.pA), (Sum.inr "raise", .int m.pR)]) :: pt q2 (.dK [(Sum.inr "set", .int m.cS), (Sum.inr "add", .int m.cA), (Sum.inr "raise", .int m.cR)]) :: pt q3 (.lst (m.gifts.map V.int)) :: pt q4 (.lst (m.took.map V.int)) :: R) Φ) : FldG K (.ref a) f ps Φ := FldG.open (fun H s => open_memC pk s) fun z => h z.1 z.2.1 z.2.2.1 z.2.2.2
theorem fldS_memC {K : PySem.W.Frag} {names : List Str} {I : CI K names} {ps R : List HP} {a : Addr} {m : MemS} {f : Str} {y : V} {k : List HP → Prop} (pk : Pick (memC I a m) ps R) (h : ∀ (q1 : Addr) (q2 : Addr) (q3 : Addr) (q4 : Addr), FldS K (.ref a) f y (obj I a [("ones", .int m.ones), ("puts", .ref q1), ("cells", .ref q2), ("gifts", .ref q3), ("took", .ref q4)] :: pt q1 (.dK [(Sum.inr "set", .int m.pS), (Sum.inr "add", .int m.pA), (Sum.inr "raise", .int m.pR)]) :: pt q2 (.dK [(Sum.inr "set", .int m.cS), (Sum.inr "add", .int m.cA), (Sum.inr "raise", .int m.cR)]) :: pt q3 (.lst (m.gifts.map V.int)) :: pt q4 (.lst (m.took.map V.int)) :: R) k) : FldS K (.ref a) f y ps k := FldS.open (fun H s => open_memC pk s) fun z => h z.1 z.2.1 z.2.2.1 z.2.2.2
theorem opn_memC {K : PySem.W.Frag} {names : List Str} {I : CI K names} {ps R : List HP} {a : Addr} {m : MemS} (pk : Pick (memC I a m) ps R) : Opn ps fun z : Addr × Addr × Addr × Addr => obj I a [("ones", .int m.ones), ("puts", .ref z.1), ("cells", .ref z.2.1), ("gifts", .ref z.2.2.1), ("took", .ref z.2.2.2)] :: pt z.1 (.dK [(Sum.inr "set", .int m.pS), (Sum.inr "add", .int m.pA), (Sum.inr "raise", .int m.pR)]) :: pt z.2.1 (.dK [(Sum.inr "set", .int m.cS), (Sum.inr "add", .int m.cA), (Sum.inr "raise", .int m.cR)]) :: pt z.2.2.1 (.lst (m.gifts.map V.int)) :: pt z.2.2.2 (.lst (m.took.map V.int)) :: R := fun H s => open_memC pk s
theorem ent_memC {K : PySem.W.Frag} {names : List Str} {I : CI K names} {R : List HP} {a : Addr} {m : MemS} {q1 : Addr} {q2 : Addr} {q3 : Addr} {q4 : Addr} : Ent (obj I a [("ones", .int m.ones), ("puts", .ref q1), ("cells", .ref q2), ("gifts", .ref q3), ("took", .ref q4)] :: pt q1 (.dK [(Sum.inr "set", .int m.pS), (Sum.inr "add", .int m.pA), (Sum.inr "raise", .int m.pR)]) :: pt q2 (.dK [(Sum.inr "set", .int m.cS), (Sum.inr "add", .int m.cA), (Sum.inr "raise", .int m.cR)]) :: pt q3 (.lst (m.gifts.map V.int)) :: pt q4 (.lst (m.took.map V.int)) :: R) (memC I a m :: R) := fun H z => by
  unfold memC
  exact Sat.ex.mpr ⟨(q1, q2, q3, q4), Sat.grp.mpr z⟩
@[irreducible] noncomputable def oneC {K : PySem.W.Frag} {names : List Str} (I : CI K names) (a : Addr) (dA mem : Addr) (hand first many : Nat) (av : V) (moment stamp : Int) (giver : Nat) (nth : Int) : HP :=
  exh fun q : Unit => grp [obj I a [("deed", .ref dA), ("hand", .int hand), ("memory", .ref mem), ("first", .int first), ("many", .int many), ("answer", av), ("moment", .int moment), ("stamp", .int stamp), ("giver", .int giver), ("nth", .int nth)]]
theorem open_oneC {K : PySem.W.Frag} {names : List Str} {I : CI K names} {ps R : List HP} {a : Addr} {dA mem : Addr} {hand first many : Nat} {av : V} {moment stamp : Int} {giver : Nat} {nth : Int} {H : Hp} (pk : Pick (oneC I a dA mem hand first many av moment stamp giver nth) ps R) (zs : Sat H ps) : ∃ z : Unit, Sat H (obj I a [("deed", .ref dA), ("hand", .int hand), ("memory", .ref mem), ("first", .int first), ("many", .int many), ("answer", av), ("moment", .int moment), ("stamp", .int stamp), ("giver", .int giver), ("nth", .int nth)] :: R) := by
  have zs := zs.perm pk.perm
  unfold oneC at zs
  obtain ⟨q, zs⟩ := Sat.ex.mp zs
  exact ⟨q, Sat.grp.mp zs⟩
theorem opn_oneC {K : PySem.W.Frag} {names : List Str} {I : CI K names} {ps R : List HP} {a : Addr} {dA mem : Addr} {hand first many : Nat} {av : V} {moment stamp : Int} {giver : Nat} {nth : Int} (pk : Pick (oneC I a dA mem hand first many av moment stamp giver nth) ps R) : Opn ps fun z : Unit => obj I a [("deed", .ref dA), ("hand", .int hand), ("memory", .ref mem), ("first", .int first), ("many", .int many), ("answer", av), ("moment", .int moment), ("stamp", .int stamp), ("giver", .int giver), ("nth", .int nth)] :: R := fun H s => open_oneC pk s
theorem ent_oneC {K : PySem.W.Frag} {names : List Str} {I : CI K names} {R : List HP} {a : Addr} {dA mem : Addr} {hand first many : Nat} {av : V} {moment stamp : Int} {giver : Nat} {nth : Int}  : Ent (obj I a [("deed", .ref dA), ("hand", .int hand), ("memory", .ref mem), ("first", .int first), ("many", .int many), ("answer", av), ("moment", .int moment), ("stamp", .int stamp), ("giver", .int giver), ("nth", .int nth)] :: R) (oneC I a dA mem hand first many av moment stamp giver nth :: R) := fun H z => by
  unfold oneC
  exact Sat.ex.mpr ⟨(), Sat.grp.mpr z⟩
theorem rdf_oneC_deed {K : PySem.W.Frag} {names : List Str} {I : CI K names} {ps : List HP} {a : Addr} {dA mem : Addr} {hand first many : Nat} {av : V} {moment stamp : Int} {giver : Nat} {nth : Int} (hm0 : oneC I a dA mem hand first many av moment stamp giver nth ∈ ps) (p : (["deed", "hand", "memory", "first", "many", "answer", "moment", "stamp", "giver", "nth"] : List Str) = names) : RdF K ps a "deed" (.ref dA) := fun H s => by
  obtain ⟨l1, l2, rfl⟩ := List.append_of_mem hm0
  obtain ⟨z, s⟩ := open_oneC (.hd) (s.perm List.perm_middle)
  exact s.rf (r := []) (List.mem_cons_self ..) (by rw [List.append_nil]; exact p) (by first | exact List.mem_cons_self | (repeat (first | exact List.mem_cons_self | refine List.mem_cons_of_mem _ ?_)))
theorem rdf_oneC_hand {K : PySem.W.Frag} {names : List Str} {I : CI K names} {ps : List HP} {a : Addr} {dA mem : Addr} {hand first many : Nat} {av : V} {moment stamp : Int} {giver : Nat} {nth : Int} (hm0 : oneC I a dA mem hand first many av moment stamp giver nth ∈ ps) (p : (["deed", "hand", "memory", "first", "many", "answer", "moment", "stamp", "giver", "nth"] : List Str) = names) : RdF K ps a "hand" (.int hand) := fun H s => by
  obtain ⟨l1, l2, rfl⟩ := List.append_of_mem hm0
  obtain ⟨z, s⟩ := open_oneC (.hd) (s.perm List.perm_middle)
  exact s.rf (r := []) (List.mem_cons_self ..) (by rw [List.append_nil]; exact p) (by first | exact List.mem_cons_self | (repeat (first | exact List.mem_cons_self | refine List.mem_cons_of_mem _ ?_)))
theorem rdf_oneC_answer {K : PySem.W.Frag} {names : List Str} {I : CI K names} {ps : List HP} {a : Addr} {dA mem : Addr} {hand first many : Nat} {av : V} {moment stamp : Int} {giver : Nat} {nth : Int} (hm0 : oneC I a dA mem hand first many av moment stamp giver nth ∈ ps) (p : (["deed", "hand", "memory", "first", "many", "answer", "moment", "stamp", "giver", "nth"] : List Str) = names) : RdF K ps a "answer" (av) := fun H s => by
  obtain ⟨l1, l2, rfl⟩ := List.append_of_mem hm0
  obtain ⟨z, s⟩ := open_oneC (.hd) (s.perm List.perm_middle)
  exact s.rf (r := []) (List.mem_cons_self ..) (by rw [List.append_nil]; exact p) (by first | exact List.mem_cons_self | (repeat (first | exact List.mem_cons_self | refine List.mem_cons_of_mem _ ?_)))
theorem rdf_oneC_moment {K : PySem.W.Frag} {names : List Str} {I : CI K names} {ps : List HP} {a : Addr} {dA mem : Addr} {hand first many : Nat} {av : V} {moment stamp : Int} {giver : Nat} {nth : Int} (hm0 : oneC I a dA mem hand first many av moment stamp giver nth ∈ ps) (p : (["deed", "hand", "memory", "first", "many", "answer", "moment", "stamp", "giver", "nth"] : List Str) = names) : RdF K ps a "moment" (.int moment) := fun H s => by
  obtain ⟨l1, l2, rfl⟩ := List.append_of_mem hm0
  obtain ⟨z, s⟩ := open_oneC (.hd) (s.perm List.perm_middle)
  exact s.rf (r := []) (List.mem_cons_self ..) (by rw [List.append_nil]; exact p) (by first | exact List.mem_cons_self | (repeat (first | exact List.mem_cons_self | refine List.mem_cons_of_mem _ ?_)))
theorem rdf_oneC_stamp {K : PySem.W.Frag} {names : List Str} {I : CI K names} {ps : List HP} {a : Addr} {dA mem : Addr} {hand first many : Nat} {av : V} {moment stamp : Int} {giver : Nat} {nth : Int} (hm0 : oneC I a dA mem hand first many av moment stamp giver nth ∈ ps) (p : (["deed", "hand", "memory", "first", "many", "answer", "moment", "stamp", "giver", "nth"] : List Str) = names) : RdF K ps a "stamp" (.int stamp) := fun H s => by
  obtain ⟨l1, l2, rfl⟩ := List.append_of_mem hm0
  obtain ⟨z, s⟩ := open_oneC (.hd) (s.perm List.perm_middle)
  exact s.rf (r := []) (List.mem_cons_self ..) (by rw [List.append_nil]; exact p) (by first | exact List.mem_cons_self | (repeat (first | exact List.mem_cons_self | refine List.mem_cons_of_mem _ ?_)))
theorem rdf_oneC_giver {K : PySem.W.Frag} {names : List Str} {I : CI K names} {ps : List HP} {a : Addr} {dA mem : Addr} {hand first many : Nat} {av : V} {moment stamp : Int} {giver : Nat} {nth : Int} (hm0 : oneC I a dA mem hand first many av moment stamp giver nth ∈ ps) (p : (["deed", "hand", "memory", "first", "many", "answer", "moment", "stamp", "giver", "nth"] : List Str) = names) : RdF K ps a "giver" (.int giver) := fun H s => by
  obtain ⟨l1, l2, rfl⟩ := List.append_of_mem hm0
  obtain ⟨z, s⟩ := open_oneC (.hd) (s.perm List.perm_middle)
  exact s.rf (r := []) (List.mem_cons_self ..) (by rw [List.append_nil]; exact p) (by first | exact List.mem_cons_self | (repeat (first | exact List.mem_cons_self | refine List.mem_cons_of_mem _ ?_)))
theorem rdf_oneC_nth {K : PySem.W.Frag} {names : List Str} {I : CI K names} {ps : List HP} {a : Addr} {dA mem : Addr} {hand first many : Nat} {av : V} {moment stamp : Int} {giver : Nat} {nth : Int} (hm0 : oneC I a dA mem hand first many av moment stamp giver nth ∈ ps) (p : (["deed", "hand", "memory", "first", "many", "answer", "moment", "stamp", "giver", "nth"] : List Str) = names) : RdF K ps a "nth" (.int nth) := fun H s => by
  obtain ⟨l1, l2, rfl⟩ := List.append_of_mem hm0
  obtain ⟨z, s⟩ := open_oneC (.hd) (s.perm List.perm_middle)
  exact s.rf (r := []) (List.mem_cons_self ..) (by rw [List.append_nil]; exact p) (by first | exact List.mem_cons_self | (repeat (first | exact List.mem_cons_self | refine List.mem_cons_of_mem _ ?_)))
@[irreducible] noncomputable def countC {K : PySem.W.Frag} {names : List Str} (I : CI K names) (a : Addr) (dA mem : Addr) (hand first many : Nat) (av : V) (moment stamp : Int) (giver : Nat) (nth : Int) (row : List Int) : HP :=
  exh fun q : Addr => grp [obj I a [("deed", .ref dA), ("hand", .int hand), ("memory", .ref mem), ("first", .int first), ("many", .int many), ("answer", av), ("moment", .int moment), ("stamp", .int stamp), ("giver", .int giver), ("nth", .int nth), ("row", .ref q)],
    pt q (.lst (row.map V.int))]
theorem open_countC {K : PySem.W.Frag} {names : List Str} {I : CI K names} {ps R : List HP} {a : Addr} {dA mem : Addr} {hand first many : Nat} {av : V} {moment stamp : Int} {giver : Nat} {nth : Int} {row : List Int} {H : Hp} (pk : Pick (countC I a dA mem hand first many av moment stamp giver nth row) ps R) (zs : Sat H ps) : ∃ z : Addr, Sat H (obj I a [("deed", .ref dA), ("hand", .int hand), ("memory", .ref mem), ("first", .int first), ("many", .int many), ("answer", av), ("moment", .int moment), ("stamp", .int stamp), ("giver", .int giver), ("nth", .int nth), ("row", .ref z)] :: pt z (.lst (row.map V.int)) :: R) := by
  have zs := zs.perm pk.perm
  unfold countC at zs
  obtain ⟨q, zs⟩ := Sat.ex.mp zs
  exact ⟨q, Sat.grp.mp zs⟩
theorem opn_countC {K : PySem.W.Frag} {names : List Str} {I : CI K names} {ps R : List HP} {a : Addr} {dA mem : Addr} {hand first many : Nat} {av : V} {moment stamp : Int} {giver : Nat} {nth : Int} {row : List Int} (pk : Pick (countC I a dA mem hand first many av moment stamp giver nth row) ps R) : Opn ps fun z : Addr => obj I a [("deed", .ref dA), ("hand", .int hand), ("memory", .ref mem), ("first", .int first), ("many", .int many), ("answer", av), ("moment", .int moment), ("stamp", .int stamp), ("giver", .int giver), ("nth", .int nth), ("row", .ref z)] :: pt z (.lst (row.map V.int)) :: R := fun H s => open_countC pk s
theorem ent_countC {K : PySem.W.Frag} {names : List Str} {I : CI K names} {R : List HP} {a : Addr} {dA mem : Addr} {hand first many : Nat} {av : V} {moment stamp : Int} {giver : Nat} {nth : Int} {row : List Int} {q1 : Addr} : Ent (obj I a [("deed", .ref dA), ("hand", .int hand), ("memory", .ref mem), ("first", .int first), ("many", .int many), ("answer", av), ("moment", .int moment), ("stamp", .int stamp), ("giver", .int giver), ("nth", .int nth), ("row", .ref q1)] :: pt q1 (.lst (row.map V.int)) :: R) (countC I a dA mem hand first many av moment stamp giver nth row :: R) := fun H z => by
  unfold countC
  exact Sat.ex.mpr ⟨(q1), Sat.grp.mpr z⟩
theorem rdf_countC_deed {K : PySem.W.Frag} {names : List Str} {I : CI K names} {ps : List HP} {a : Addr} {dA mem : Addr} {hand first many : Nat} {av : V} {moment stamp : Int} {giver : Nat} {nth : Int} {row : List Int} (hm0 : countC I a dA mem hand first many av moment stamp giver nth row ∈ ps) (p : (["deed", "hand", "memory", "first", "many", "answer", "moment", "stamp", "giver", "nth", "row"] : List Str) = names) : RdF K ps a "deed" (.ref dA) := fun H s => by
  obtain ⟨l1, l2, rfl⟩ := List.append_of_mem hm0
  obtain ⟨z, s⟩ := open_countC (.hd) (s.perm List.perm_middle)
  exact s.rf (r := []) (List.mem_cons_self ..) (by rw [List.append_nil]; exact p) (by first | exact List.mem_cons_self | (repeat (first | exact List.mem_cons_self | refine List.mem_cons_of_mem _ ?_)))
theorem rdf_countC_hand {K : PySem.W.Frag} {names : List Str} {I : CI K names} {ps : List HP} {a : Addr} {dA mem : Addr} {hand first many : Nat} {av : V} {moment stamp : Int} {giver : Nat} {nth : Int} {row : List Int} (hm0 : countC I a dA mem hand first many av moment stamp giver nth row ∈ ps) (p : (["deed", "hand", "memory", "first", "many", "answer", "moment", "stamp", "giver", "nth", "row"] : List Str) = names) : RdF K ps a "hand" (.int hand) := fun H s => by
  obtain ⟨l1, l2, rfl⟩ := List.append_of_mem hm0
  obtain ⟨z, s⟩ := open_countC (.hd) (s.perm List.perm_middle)
  exact s.rf (r := []) (List.mem_cons_self ..) (by rw [List.append_nil]; exact p) (by first | exact List.mem_cons_self | (repeat (first | exact List.mem_cons_self | refine List.mem_cons_of_mem _ ?_)))
theorem rdf_countC_answer {K : PySem.W.Frag} {names : List Str} {I : CI K names} {ps : List HP} {a : Addr} {dA mem : Addr} {hand first many : Nat} {av : V} {moment stamp : Int} {giver : Nat} {nth : Int} {row : List Int} (hm0 : countC I a dA mem hand first many av moment stamp giver nth row ∈ ps) (p : (["deed", "hand", "memory", "first", "many", "answer", "moment", "stamp", "giver", "nth", "row"] : List Str) = names) : RdF K ps a "answer" (av) := fun H s => by
  obtain ⟨l1, l2, rfl⟩ := List.append_of_mem hm0
  obtain ⟨z, s⟩ := open_countC (.hd) (s.perm List.perm_middle)
  exact s.rf (r := []) (List.mem_cons_self ..) (by rw [List.append_nil]; exact p) (by first | exact List.mem_cons_self | (repeat (first | exact List.mem_cons_self | refine List.mem_cons_of_mem _ ?_)))
theorem rdf_countC_moment {K : PySem.W.Frag} {names : List Str} {I : CI K names} {ps : List HP} {a : Addr} {dA mem : Addr} {hand first many : Nat} {av : V} {moment stamp : Int} {giver : Nat} {nth : Int} {row : List Int} (hm0 : countC I a dA mem hand first many av moment stamp giver nth row ∈ ps) (p : (["deed", "hand", "memory", "first", "many", "answer", "moment", "stamp", "giver", "nth", "row"] : List Str) = names) : RdF K ps a "moment" (.int moment) := fun H s => by
  obtain ⟨l1, l2, rfl⟩ := List.append_of_mem hm0
  obtain ⟨z, s⟩ := open_countC (.hd) (s.perm List.perm_middle)
  exact s.rf (r := []) (List.mem_cons_self ..) (by rw [List.append_nil]; exact p) (by first | exact List.mem_cons_self | (repeat (first | exact List.mem_cons_self | refine List.mem_cons_of_mem _ ?_)))
theorem rdf_countC_stamp {K : PySem.W.Frag} {names : List Str} {I : CI K names} {ps : List HP} {a : Addr} {dA mem : Addr} {hand first many : Nat} {av : V} {moment stamp : Int} {giver : Nat} {nth : Int} {row : List Int} (hm0 : countC I a dA mem hand first many av moment stamp giver nth row ∈ ps) (p : (["deed", "hand", "memory", "first", "many", "answer", "moment", "stamp", "giver", "nth", "row"] : List Str) = names) : RdF K ps a "stamp" (.int stamp) := fun H s => by
  obtain ⟨l1, l2, rfl⟩ := List.append_of_mem hm0
  obtain ⟨z, s⟩ := open_countC (.hd) (s.perm List.perm_middle)
  exact s.rf (r := []) (List.mem_cons_self ..) (by rw [List.append_nil]; exact p) (by first | exact List.mem_cons_self | (repeat (first | exact List.mem_cons_self | refine List.mem_cons_of_mem _ ?_)))
theorem rdf_countC_giver {K : PySem.W.Frag} {names : List Str} {I : CI K names} {ps : List HP} {a : Addr} {dA mem : Addr} {hand first many : Nat} {av : V} {moment stamp : Int} {giver : Nat} {nth : Int} {row : List Int} (hm0 : countC I a dA mem hand first many av moment stamp giver nth row ∈ ps) (p : (["deed", "hand", "memory", "first", "many", "answer", "moment", "stamp", "giver", "nth", "row"] : List Str) = names) : RdF K ps a "giver" (.int giver) := fun H s => by
  obtain ⟨l1, l2, rfl⟩ := List.append_of_mem hm0
  obtain ⟨z, s⟩ := open_countC (.hd) (s.perm List.perm_middle)
  exact s.rf (r := []) (List.mem_cons_self ..) (by rw [List.append_nil]; exact p) (by first | exact List.mem_cons_self | (repeat (first | exact List.mem_cons_self | refine List.mem_cons_of_mem _ ?_)))
theorem rdf_countC_nth {K : PySem.W.Frag} {names : List Str} {I : CI K names} {ps : List HP} {a : Addr} {dA mem : Addr} {hand first many : Nat} {av : V} {moment stamp : Int} {giver : Nat} {nth : Int} {row : List Int} (hm0 : countC I a dA mem hand first many av moment stamp giver nth row ∈ ps) (p : (["deed", "hand", "memory", "first", "many", "answer", "moment", "stamp", "giver", "nth", "row"] : List Str) = names) : RdF K ps a "nth" (.int nth) := fun H s => by
  obtain ⟨l1, l2, rfl⟩ := List.append_of_mem hm0
  obtain ⟨z, s⟩ := open_countC (.hd) (s.perm List.perm_middle)
  exact s.rf (r := []) (List.mem_cons_self ..) (by rw [List.append_nil]; exact p) (by first | exact List.mem_cons_self | (repeat (first | exact List.mem_cons_self | refine List.mem_cons_of_mem _ ?_)))
@[irreducible] noncomputable def scanWC {K : PySem.W.Frag} {names : List Str} (I : CI K names) (a : Addr) (dA mem : Addr) (hand first many : Nat) (av : V) (moment stamp : Int) (giver : Nat) (nth : Int) (sc : Addr) : HP :=
  exh fun q : Unit => grp [obj I a [("deed", .ref dA), ("hand", .int hand), ("memory", .ref mem), ("first", .int first), ("many", .int many), ("answer", av), ("moment", .int moment), ("stamp", .int stamp), ("giver", .int giver), ("nth", .int nth), ("scan", .ref sc)]]
theorem open_scanWC {K : PySem.W.Frag} {names : List Str} {I : CI K names} {ps R : List HP} {a : Addr} {dA mem : Addr} {hand first many : Nat} {av : V} {moment stamp : Int} {giver : Nat} {nth : Int} {sc : Addr} {H : Hp} (pk : Pick (scanWC I a dA mem hand first many av moment stamp giver nth sc) ps R) (zs : Sat H ps) : ∃ z : Unit, Sat H (obj I a [("deed", .ref dA), ("hand", .int hand), ("memory", .ref mem), ("first", .int first), ("many", .int many), ("answer", av), ("moment", .int moment), ("stamp", .int stamp), ("giver", .int giver), ("nth", .int nth), ("scan", .ref sc)] :: R) := by
  have zs := zs.perm pk.perm
  unfold scanWC at zs
  obtain ⟨q, zs⟩ := Sat.ex.mp zs
  exact ⟨q, Sat.grp.mp zs⟩
theorem opn_scanWC {K : PySem.W.Frag} {names : List Str} {I : CI K names} {ps R : List HP} {a : Addr} {dA mem : Addr} {hand first many : Nat} {av : V} {moment stamp : Int} {giver : Nat} {nth : Int} {sc : Addr} (pk : Pick (scanWC I a dA mem hand first many av moment stamp giver nth sc) ps R) : Opn ps fun z : Unit => obj I a [("deed", .ref dA), ("hand", .int hand), ("memory", .ref mem), ("first", .int first), ("many", .int many), ("answer", av), ("moment", .int moment), ("stamp", .int stamp), ("giver", .int giver), ("nth", .int nth), ("scan", .ref sc)] :: R := fun H s => open_scanWC pk s
theorem ent_scanWC {K : PySem.W.Frag} {names : List Str} {I : CI K names} {R : List HP} {a : Addr} {dA mem : Addr} {hand first many : Nat} {av : V} {moment stamp : Int} {giver : Nat} {nth : Int} {sc : Addr}  : Ent (obj I a [("deed", .ref dA), ("hand", .int hand), ("memory", .ref mem), ("first", .int first), ("many", .int many), ("answer", av), ("moment", .int moment), ("stamp", .int stamp), ("giver", .int giver), ("nth", .int nth), ("scan", .ref sc)] :: R) (scanWC I a dA mem hand first many av moment stamp giver nth sc :: R) := fun H z => by
  unfold scanWC
  exact Sat.ex.mpr ⟨(), Sat.grp.mpr z⟩
theorem rdf_scanWC_deed {K : PySem.W.Frag} {names : List Str} {I : CI K names} {ps : List HP} {a : Addr} {dA mem : Addr} {hand first many : Nat} {av : V} {moment stamp : Int} {giver : Nat} {nth : Int} {sc : Addr} (hm0 : scanWC I a dA mem hand first many av moment stamp giver nth sc ∈ ps) (p : (["deed", "hand", "memory", "first", "many", "answer", "moment", "stamp", "giver", "nth", "scan"] : List Str) = names) : RdF K ps a "deed" (.ref dA) := fun H s => by
  obtain ⟨l1, l2, rfl⟩ := List.append_of_mem hm0
  obtain ⟨z, s⟩ := open_scanWC (.hd) (s.perm List.perm_middle)
  exact s.rf (r := []) (List.mem_cons_self ..) (by rw [List.append_nil]; exact p) (by first | exact List.mem_cons_self | (repeat (first | exact List.mem_cons_self | refine List.mem_cons_of_mem _ ?_)))
theorem rdf_scanWC_hand {K : PySem.W.Frag} {names : List Str} {I : CI K names} {ps : List HP} {a : Addr} {dA mem : Addr} {hand first many : Nat} {av : V} {moment stamp : Int} {giver : Nat} {nth : Int} {sc : Addr} (hm0 : scanWC I a dA mem hand first many av moment stamp giver nth sc ∈ ps) (p : (["deed", "hand", "memory", "first", "many", "answer", "moment", "stamp", "giver", "nth", "scan"] : List Str) = names) : RdF K ps a "hand" (.int hand) := fun H s => by
  obtain ⟨l1, l2, rfl⟩ := List.append_of_mem hm0
  obtain ⟨z, s⟩ := open_scanWC (.hd) (s.perm List.perm_middle)
  exact s.rf (r := []) (List.mem_cons_self ..) (by rw [List.append_nil]; exact p) (by first | exact List.mem_cons_self | (repeat (first | exact List.mem_cons_self | refine List.mem_cons_of_mem _ ?_)))
theorem rdf_scanWC_answer {K : PySem.W.Frag} {names : List Str} {I : CI K names} {ps : List HP} {a : Addr} {dA mem : Addr} {hand first many : Nat} {av : V} {moment stamp : Int} {giver : Nat} {nth : Int} {sc : Addr} (hm0 : scanWC I a dA mem hand first many av moment stamp giver nth sc ∈ ps) (p : (["deed", "hand", "memory", "first", "many", "answer", "moment", "stamp", "giver", "nth", "scan"] : List Str) = names) : RdF K ps a "answer" (av) := fun H s => by
  obtain ⟨l1, l2, rfl⟩ := List.append_of_mem hm0
  obtain ⟨z, s⟩ := open_scanWC (.hd) (s.perm List.perm_middle)
  exact s.rf (r := []) (List.mem_cons_self ..) (by rw [List.append_nil]; exact p) (by first | exact List.mem_cons_self | (repeat (first | exact List.mem_cons_self | refine List.mem_cons_of_mem _ ?_)))
theorem rdf_scanWC_moment {K : PySem.W.Frag} {names : List Str} {I : CI K names} {ps : List HP} {a : Addr} {dA mem : Addr} {hand first many : Nat} {av : V} {moment stamp : Int} {giver : Nat} {nth : Int} {sc : Addr} (hm0 : scanWC I a dA mem hand first many av moment stamp giver nth sc ∈ ps) (p : (["deed", "hand", "memory", "first", "many", "answer", "moment", "stamp", "giver", "nth", "scan"] : List Str) = names) : RdF K ps a "moment" (.int moment) := fun H s => by
  obtain ⟨l1, l2, rfl⟩ := List.append_of_mem hm0
  obtain ⟨z, s⟩ := open_scanWC (.hd) (s.perm List.perm_middle)
  exact s.rf (r := []) (List.mem_cons_self ..) (by rw [List.append_nil]; exact p) (by first | exact List.mem_cons_self | (repeat (first | exact List.mem_cons_self | refine List.mem_cons_of_mem _ ?_)))
theorem rdf_scanWC_stamp {K : PySem.W.Frag} {names : List Str} {I : CI K names} {ps : List HP} {a : Addr} {dA mem : Addr} {hand first many : Nat} {av : V} {moment stamp : Int} {giver : Nat} {nth : Int} {sc : Addr} (hm0 : scanWC I a dA mem hand first many av moment stamp giver nth sc ∈ ps) (p : (["deed", "hand", "memory", "first", "many", "answer", "moment", "stamp", "giver", "nth", "scan"] : List Str) = names) : RdF K ps a "stamp" (.int stamp) := fun H s => by
  obtain ⟨l1, l2, rfl⟩ := List.append_of_mem hm0
  obtain ⟨z, s⟩ := open_scanWC (.hd) (s.perm List.perm_middle)
  exact s.rf (r := []) (List.mem_cons_self ..) (by rw [List.append_nil]; exact p) (by first | exact List.mem_cons_self | (repeat (first | exact List.mem_cons_self | refine List.mem_cons_of_mem _ ?_)))
theorem rdf_scanWC_giver {K : PySem.W.Frag} {names : List Str} {I : CI K names} {ps : List HP} {a : Addr} {dA mem : Addr} {hand first many : Nat} {av : V} {moment stamp : Int} {giver : Nat} {nth : Int} {sc : Addr} (hm0 : scanWC I a dA mem hand first many av moment stamp giver nth sc ∈ ps) (p : (["deed", "hand", "memory", "first", "many", "answer", "moment", "stamp", "giver", "nth", "scan"] : List Str) = names) : RdF K ps a "giver" (.int giver) := fun H s => by
  obtain ⟨l1, l2, rfl⟩ := List.append_of_mem hm0
  obtain ⟨z, s⟩ := open_scanWC (.hd) (s.perm List.perm_middle)
  exact s.rf (r := []) (List.mem_cons_self ..) (by rw [List.append_nil]; exact p) (by first | exact List.mem_cons_self | (repeat (first | exact List.mem_cons_self | refine List.mem_cons_of_mem _ ?_)))
theorem rdf_scanWC_nth {K : PySem.W.Frag} {names : List Str} {I : CI K names} {ps : List HP} {a : Addr} {dA mem : Addr} {hand first many : Nat} {av : V} {moment stamp : Int} {giver : Nat} {nth : Int} {sc : Addr} (hm0 : scanWC I a dA mem hand first many av moment stamp giver nth sc ∈ ps) (p : (["deed", "hand", "memory", "first", "many", "answer", "moment", "stamp", "giver", "nth", "scan"] : List Str) = names) : RdF K ps a "nth" (.int nth) := fun H s => by
  obtain ⟨l1, l2, rfl⟩ := List.append_of_mem hm0
  obtain ⟨z, s⟩ := open_scanWC (.hd) (s.perm List.perm_middle)
  exact s.rf (r := []) (List.mem_cons_self ..) (by rw [List.append_nil]; exact p) (by first | exact List.mem_cons_self | (repeat (first | exact List.mem_cons_self | refine List.mem_cons_of_mem _ ?_)))
@[irreducible] noncomputable def giveC {K : PySem.W.Frag} {names : List Str} (I : CI K names) (a : Addr) (dA mem : Addr) (hand first many : Nat) (av : V) (moment stamp : Int) (giver : Nat) (nth : Int) (read : Nat) : HP :=
  exh fun q : Unit => grp [obj I a [("deed", .ref dA), ("hand", .int hand), ("memory", .ref mem), ("first", .int first), ("many", .int many), ("answer", av), ("moment", .int moment), ("stamp", .int stamp), ("giver", .int giver), ("nth", .int nth), ("read", .int read)]]
theorem open_giveC {K : PySem.W.Frag} {names : List Str} {I : CI K names} {ps R : List HP} {a : Addr} {dA mem : Addr} {hand first many : Nat} {av : V} {moment stamp : Int} {giver : Nat} {nth : Int} {read : Nat} {H : Hp} (pk : Pick (giveC I a dA mem hand first many av moment stamp giver nth read) ps R) (zs : Sat H ps) : ∃ z : Unit, Sat H (obj I a [("deed", .ref dA), ("hand", .int hand), ("memory", .ref mem), ("first", .int first), ("many", .int many), ("answer", av), ("moment", .int moment), ("stamp", .int stamp), ("giver", .int giver), ("nth", .int nth), ("read", .int read)] :: R) := by
  have zs := zs.perm pk.perm
  unfold giveC at zs
  obtain ⟨q, zs⟩ := Sat.ex.mp zs
  exact ⟨q, Sat.grp.mp zs⟩
theorem fldG_giveC {K : PySem.W.Frag} {names : List Str} {I : CI K names} {ps R : List HP} {a : Addr} {dA mem : Addr} {hand first many : Nat} {av : V} {moment stamp : Int} {giver : Nat} {nth : Int} {read : Nat} {f : Str} {Φ : V → List HP → Prop} (pk : Pick (giveC I a dA mem hand first many av moment stamp giver nth read) ps R) (h : FldG K (.ref a) f (obj I a [("deed", .ref dA), ("hand", .int hand), ("memory", .ref mem), ("first", .int first), ("many", .int many), ("answer", av), ("moment", .int moment), ("stamp", .int stamp), ("giver", .int giver), ("nth", .int nth), ("read", .int read)] :: R) Φ) : FldG K (.ref a) f ps Φ := FldG.open (fun H s => open_giveC pk s) fun _ => h
theorem fldS_giveC {K : PySem.W.Frag} {names : List Str} {I : CI K names} {ps R : List HP} {a : Addr} {dA mem : Addr} {hand first many : Nat} {av : V} {moment stamp : Int} {giver : Nat} {nth : Int} {read : Nat} {f : Str} {y : V} {k : List HP → Prop} (pk : Pick (giveC I a dA mem hand first many av moment stamp giver nth read) ps R) (h : FldS K (.ref a) f y (obj I a [("deed", .ref dA), ("hand", .int hand), ("memory", .ref mem), ("first", .int first), ("many", .int many), ("answer", av), ("moment", .int moment), ("stamp", .int stamp), ("giver", .int giver), ("nth", .int nth), ("read", .int read)] :: R) k) : FldS K (.ref a) f y ps k := FldS.open (fun H s => open_giveC pk s) fun _ => h
theorem opn_giveC {K : PySem.W.Frag} {names : List Str} {I : CI K names} {ps R : List HP} {a : Addr} {dA mem : Addr} {hand first many : Nat} {av : V} {moment stamp : Int} {giver : Nat} {nth : Int} {read : Nat} (pk : Pick (giveC I a dA mem hand first many av moment stamp giver nth read) ps R) : Opn ps fun z : Unit => obj I a [("deed", .ref dA), ("hand", .int hand), ("memory", .ref mem), ("first", .int first), ("many", .int many), ("answer", av), ("moment", .int moment), ("stamp", .int stamp), ("giver", .int giver), ("nth", .int nth), ("read", .int read)] :: R := fun H s => open_giveC pk s
theorem ent_giveC {K : PySem.W.Frag} {names : List Str} {I : CI K names} {R : List HP} {a : Addr} {dA mem : Addr} {hand first many : Nat} {av : V} {moment stamp : Int} {giver : Nat} {nth : Int} {read : Nat}  : Ent (obj I a [("deed", .ref dA), ("hand", .int hand), ("memory", .ref mem), ("first", .int first), ("many", .int many), ("answer", av), ("moment", .int moment), ("stamp", .int stamp), ("giver", .int giver), ("nth", .int nth), ("read", .int read)] :: R) (giveC I a dA mem hand first many av moment stamp giver nth read :: R) := fun H z => by
  unfold giveC
  exact Sat.ex.mpr ⟨(), Sat.grp.mpr z⟩
theorem rdf_giveC_deed {K : PySem.W.Frag} {names : List Str} {I : CI K names} {ps : List HP} {a : Addr} {dA mem : Addr} {hand first many : Nat} {av : V} {moment stamp : Int} {giver : Nat} {nth : Int} {read : Nat} (hm0 : giveC I a dA mem hand first many av moment stamp giver nth read ∈ ps) (p : (["deed", "hand", "memory", "first", "many", "answer", "moment", "stamp", "giver", "nth", "read"] : List Str) = names) : RdF K ps a "deed" (.ref dA) := fun H s => by
  obtain ⟨l1, l2, rfl⟩ := List.append_of_mem hm0
  obtain ⟨z, s⟩ := open_giveC (.hd) (s.perm List.perm_middle)
  exact s.rf (r := []) (List.mem_cons_self ..) (by rw [List.append_nil]; exact p) (by first | exact List.mem_cons_self | (repeat (first | exact List.mem_cons_self | refine List.mem_cons_of_mem _ ?_)))
theorem rdf_giveC_hand {K : PySem.W.Frag} {names : List Str} {I : CI K names} {ps : List HP} {a : Addr} {dA mem : Addr} {hand first many : Nat} {av : V} {moment stamp : Int} {giver : Nat} {nth : Int} {read : Nat} (hm0 : giveC I a dA mem hand first many av moment stamp giver nth read ∈ ps) (p : (["deed", "hand", "memory", "first", "many", "answer", "moment", "stamp", "giver", "nth", "read"] : List Str) = names) : RdF K ps a "hand" (.int hand) := fun H s => by
  obtain ⟨l1, l2, rfl⟩ := List.append_of_mem hm0
  obtain ⟨z, s⟩ := open_giveC (.hd) (s.perm List.perm_middle)
  exact s.rf (r := []) (List.mem_cons_self ..) (by rw [List.append_nil]; exact p) (by first | exact List.mem_cons_self | (repeat (first | exact List.mem_cons_self | refine List.mem_cons_of_mem _ ?_)))
theorem rdf_giveC_answer {K : PySem.W.Frag} {names : List Str} {I : CI K names} {ps : List HP} {a : Addr} {dA mem : Addr} {hand first many : Nat} {av : V} {moment stamp : Int} {giver : Nat} {nth : Int} {read : Nat} (hm0 : giveC I a dA mem hand first many av moment stamp giver nth read ∈ ps) (p : (["deed", "hand", "memory", "first", "many", "answer", "moment", "stamp", "giver", "nth", "read"] : List Str) = names) : RdF K ps a "answer" (av) := fun H s => by
  obtain ⟨l1, l2, rfl⟩ := List.append_of_mem hm0
  obtain ⟨z, s⟩ := open_giveC (.hd) (s.perm List.perm_middle)
  exact s.rf (r := []) (List.mem_cons_self ..) (by rw [List.append_nil]; exact p) (by first | exact List.mem_cons_self | (repeat (first | exact List.mem_cons_self | refine List.mem_cons_of_mem _ ?_)))
theorem rdf_giveC_moment {K : PySem.W.Frag} {names : List Str} {I : CI K names} {ps : List HP} {a : Addr} {dA mem : Addr} {hand first many : Nat} {av : V} {moment stamp : Int} {giver : Nat} {nth : Int} {read : Nat} (hm0 : giveC I a dA mem hand first many av moment stamp giver nth read ∈ ps) (p : (["deed", "hand", "memory", "first", "many", "answer", "moment", "stamp", "giver", "nth", "read"] : List Str) = names) : RdF K ps a "moment" (.int moment) := fun H s => by
  obtain ⟨l1, l2, rfl⟩ := List.append_of_mem hm0
  obtain ⟨z, s⟩ := open_giveC (.hd) (s.perm List.perm_middle)
  exact s.rf (r := []) (List.mem_cons_self ..) (by rw [List.append_nil]; exact p) (by first | exact List.mem_cons_self | (repeat (first | exact List.mem_cons_self | refine List.mem_cons_of_mem _ ?_)))
theorem rdf_giveC_stamp {K : PySem.W.Frag} {names : List Str} {I : CI K names} {ps : List HP} {a : Addr} {dA mem : Addr} {hand first many : Nat} {av : V} {moment stamp : Int} {giver : Nat} {nth : Int} {read : Nat} (hm0 : giveC I a dA mem hand first many av moment stamp giver nth read ∈ ps) (p : (["deed", "hand", "memory", "first", "many", "answer", "moment", "stamp", "giver", "nth", "read"] : List Str) = names) : RdF K ps a "stamp" (.int stamp) := fun H s => by
  obtain ⟨l1, l2, rfl⟩ := List.append_of_mem hm0
  obtain ⟨z, s⟩ := open_giveC (.hd) (s.perm List.perm_middle)
  exact s.rf (r := []) (List.mem_cons_self ..) (by rw [List.append_nil]; exact p) (by first | exact List.mem_cons_self | (repeat (first | exact List.mem_cons_self | refine List.mem_cons_of_mem _ ?_)))
theorem rdf_giveC_giver {K : PySem.W.Frag} {names : List Str} {I : CI K names} {ps : List HP} {a : Addr} {dA mem : Addr} {hand first many : Nat} {av : V} {moment stamp : Int} {giver : Nat} {nth : Int} {read : Nat} (hm0 : giveC I a dA mem hand first many av moment stamp giver nth read ∈ ps) (p : (["deed", "hand", "memory", "first", "many", "answer", "moment", "stamp", "giver", "nth", "read"] : List Str) = names) : RdF K ps a "giver" (.int giver) := fun H s => by
  obtain ⟨l1, l2, rfl⟩ := List.append_of_mem hm0
  obtain ⟨z, s⟩ := open_giveC (.hd) (s.perm List.perm_middle)
  exact s.rf (r := []) (List.mem_cons_self ..) (by rw [List.append_nil]; exact p) (by first | exact List.mem_cons_self | (repeat (first | exact List.mem_cons_self | refine List.mem_cons_of_mem _ ?_)))
theorem rdf_giveC_nth {K : PySem.W.Frag} {names : List Str} {I : CI K names} {ps : List HP} {a : Addr} {dA mem : Addr} {hand first many : Nat} {av : V} {moment stamp : Int} {giver : Nat} {nth : Int} {read : Nat} (hm0 : giveC I a dA mem hand first many av moment stamp giver nth read ∈ ps) (p : (["deed", "hand", "memory", "first", "many", "answer", "moment", "stamp", "giver", "nth", "read"] : List Str) = names) : RdF K ps a "nth" (.int nth) := fun H s => by
  obtain ⟨l1, l2, rfl⟩ := List.append_of_mem hm0
  obtain ⟨z, s⟩ := open_giveC (.hd) (s.perm List.perm_middle)
  exact s.rf (r := []) (List.mem_cons_self ..) (by rw [List.append_nil]; exact p) (by first | exact List.mem_cons_self | (repeat (first | exact List.mem_cons_self | refine List.mem_cons_of_mem _ ?_)))
@[irreducible] noncomputable def takeC {K : PySem.W.Frag} {names : List Str} (I : CI K names) (a : Addr) (dA mem : Addr) (hand first many : Nat) (av : V) (moment stamp : Int) (giver : Nat) (nth : Int) (rows : List (List Int)) (again : Bool) : HP :=
  exh fun q : Addr => grp [obj I a [("deed", .ref dA), ("hand", .int hand), ("memory", .ref mem), ("first", .int first), ("many", .int many), ("answer", av), ("moment", .int moment), ("stamp", .int stamp), ("giver", .int giver), ("nth", .int nth), ("rows", .ref q), ("again", .bl again)],
    listsC q rows]
theorem open_takeC {K : PySem.W.Frag} {names : List Str} {I : CI K names} {ps R : List HP} {a : Addr} {dA mem : Addr} {hand first many : Nat} {av : V} {moment stamp : Int} {giver : Nat} {nth : Int} {rows : List (List Int)} {again : Bool} {H : Hp} (pk : Pick (takeC I a dA mem hand first many av moment stamp giver nth rows again) ps R) (zs : Sat H ps) : ∃ z : Addr, Sat H (obj I a [("deed", .ref dA), ("hand", .int hand), ("memory", .ref mem), ("first", .int first), ("many", .int many), ("answer", av), ("moment", .int moment), ("stamp", .int stamp), ("giver", .int giver), ("nth", .int nth), ("rows", .ref z), ("again", .bl again)] :: listsC z rows :: R) := by
  have zs := zs.perm pk.perm
  unfold takeC at zs
  obtain ⟨q, zs⟩ := Sat.ex.mp zs
  exact ⟨q, Sat.grp.mp zs⟩
theorem fldS_takeC {K : PySem.W.Frag} {names : List Str} {I : CI K names} {ps R : List HP} {a : Addr} {dA mem : Addr} {hand first many : Nat} {av : V} {moment stamp : Int} {giver : Nat} {nth : Int} {rows : List (List Int)} {again : Bool} {f : Str} {y : V} {k : List HP → Prop} (pk : Pick (takeC I a dA mem hand first many av moment stamp giver nth rows again) ps R) (h : ∀ (q1 : Addr), FldS K (.ref a) f y (obj I a [("deed", .ref dA), ("hand", .int hand), ("memory", .ref mem), ("first", .int first), ("many", .int many), ("answer", av), ("moment", .int moment), ("stamp", .int stamp), ("giver", .int giver), ("nth", .int nth), ("rows", .ref q1), ("again", .bl again)] :: listsC q1 rows :: R) k) : FldS K (.ref a) f y ps k := FldS.open (fun H s => open_takeC pk s) fun z => h z
theorem opn_takeC {K : PySem.W.Frag} {names : List Str} {I : CI K names} {ps R : List HP} {a : Addr} {dA mem : Addr} {hand first many : Nat} {av : V} {moment stamp : Int} {giver : Nat} {nth : Int} {rows : List (List Int)} {again : Bool} (pk : Pick (takeC I a dA mem hand first many av moment stamp giver nth rows again) ps R) : Opn ps fun z : Addr => obj I a [("deed", .ref dA), ("hand", .int hand), ("memory", .ref mem), ("first", .int first), ("many", .int many), ("answer", av), ("moment", .int moment), ("stamp", .int stamp), ("giver", .int giver), ("nth", .int nth), ("rows", .ref z), ("again", .bl again)] :: listsC z rows :: R := fun H s => open_takeC pk s
theorem ent_takeC {K : PySem.W.Frag} {names : List Str} {I : CI K names} {R : List HP} {a : Addr} {dA mem : Addr} {hand first many : Nat} {av : V} {moment stamp : Int} {giver : Nat} {nth : Int} {rows : List (List Int)} {again : Bool} {q1 : Addr} : Ent (obj I a [("deed", .ref dA), ("hand", .int hand), ("memory", .ref mem), ("first", .int first), ("many", .int many), ("answer", av), ("moment", .int moment), ("stamp", .int stamp), ("giver", .int giver), ("nth", .int nth), ("rows", .ref q1), ("again", .bl again)] :: listsC q1 rows :: R) (takeC I a dA mem hand first many av moment stamp giver nth rows again :: R) := fun H z => by
  unfold takeC
  exact Sat.ex.mpr ⟨(q1), Sat.grp.mpr z⟩
theorem meth_takeC {K : PySem.W.Frag} {names : List Str} {I : CI K names} {ps : List HP} {a : Addr} {dA mem : Addr} {hand first many : Nat} {av : V} {moment stamp : Int} {giver : Nat} {nth : Int} {rows : List (List Int)} {again : Bool} {f : Str} {k : List HP → Prop} (h : takeC I a dA mem hand first many av moment stamp giver nth rows again ∈ ps) (p : (["deed", "hand", "memory", "first", "many", "answer", "moment", "stamp", "giver", "nth", "rows", "again"] : List Str) = names) (n : f ∉ names) (q : k ps) : MethG I.C f (.ref a) ps k :=
  methC h (fun H R z => by
    obtain ⟨q, z⟩ := open_takeC (.hd) z
    obtain ⟨dx, e⟩ := z.obj (List.mem_cons_self ..)
    exact ⟨dx, _, e, lookup_not fun y => n (by rw [← p]; exact y)⟩) q
theorem rdf_takeC_deed {K : PySem.W.Frag} {names : List Str} {I : CI K names} {ps : List HP} {a : Addr} {dA mem : Addr} {hand first many : Nat} {av : V} {moment stamp : Int} {giver : Nat} {nth : Int} {rows : List (List Int)} {again : Bool} (hm0 : takeC I a dA mem hand first many av moment stamp giver nth rows again ∈ ps) (p : (["deed", "hand", "memory", "first", "many", "answer", "moment", "stamp", "giver", "nth", "rows", "again"] : List Str) = names) : RdF K ps a "deed" (.ref dA) := fun H s => by
  obtain ⟨l1, l2, rfl⟩ := List.append_of_mem hm0
  obtain ⟨z, s⟩ := open_takeC (.hd) (s.perm List.perm_middle)
  exact s.rf (r := []) (List.mem_cons_self ..) (by rw [List.append_nil]; exact p) (by first | exact List.mem_cons_self | (repeat (first | exact List.mem_cons_self | refine List.mem_cons_of_mem _ ?_)))
theorem rdf_takeC_hand {K : PySem.W.Frag} {names : List Str} {I : CI K names} {ps : List HP} {a : Addr} {dA mem : Addr} {hand first many : Nat} {av : V} {moment stamp : Int} {giver : Nat} {nth : Int} {rows : List (List Int)} {again : Bool} (hm0 : takeC I a dA mem hand first many av moment stamp giver nth rows again ∈ ps) (p : (["deed", "hand", "memory", "first", "many", "answer", "moment", "stamp", "giver", "nth", "rows", "again"] : List Str) = names) : RdF K ps a "hand" (.int hand) := fun H s => by
  obtain ⟨l1, l2, rfl⟩ := List.append_of_mem hm0
  obtain ⟨z, s⟩ := open_takeC (.hd) (s.perm List.perm_middle)
  exact s.rf (r := []) (List.mem_cons_self ..) (by rw [List.append_nil]; exact p) (by first | exact List.mem_cons_self | (repeat (first | exact List.mem_cons_self | refine List.mem_cons_of_mem _ ?_)))
theorem rdf_takeC_answer {K : PySem.W.Frag} {names : List Str} {I : CI K names} {ps : List HP} {a : Addr} {dA mem : Addr} {hand first many : Nat} {av : V} {moment stamp : Int} {giver : Nat} {nth : Int} {rows : List (List Int)} {again : Bool} (hm0 : takeC I a dA mem hand first many av moment stamp giver nth rows again ∈ ps) (p : (["deed", "hand", "memory", "first", "many", "answer", "moment", "stamp", "giver", "nth", "rows", "again"] : List Str) = names) : RdF K ps a "answer" (av) := fun H s => by
  obtain ⟨l1, l2, rfl⟩ := List.append_of_mem hm0
  obtain ⟨z, s⟩ := open_takeC (.hd) (s.perm List.perm_middle)
  exact s.rf (r := []) (List.mem_cons_self ..) (by rw [List.append_nil]; exact p) (by first | exact List.mem_cons_self | (repeat (first | exact List.mem_cons_self | refine List.mem_cons_of_mem _ ?_)))
theorem rdf_takeC_moment {K : PySem.W.Frag} {names : List Str} {I : CI K names} {ps : List HP} {a : Addr} {dA mem : Addr} {hand first many : Nat} {av : V} {moment stamp : Int} {giver : Nat} {nth : Int} {rows : List (List Int)} {again : Bool} (hm0 : takeC I a dA mem hand first many av moment stamp giver nth rows again ∈ ps) (p : (["deed", "hand", "memory", "first", "many", "answer", "moment", "stamp", "giver", "nth", "rows", "again"] : List Str) = names) : RdF K ps a "moment" (.int moment) := fun H s => by
  obtain ⟨l1, l2, rfl⟩ := List.append_of_mem hm0
  obtain ⟨z, s⟩ := open_takeC (.hd) (s.perm List.perm_middle)
  exact s.rf (r := []) (List.mem_cons_self ..) (by rw [List.append_nil]; exact p) (by first | exact List.mem_cons_self | (repeat (first | exact List.mem_cons_self | refine List.mem_cons_of_mem _ ?_)))
theorem rdf_takeC_stamp {K : PySem.W.Frag} {names : List Str} {I : CI K names} {ps : List HP} {a : Addr} {dA mem : Addr} {hand first many : Nat} {av : V} {moment stamp : Int} {giver : Nat} {nth : Int} {rows : List (List Int)} {again : Bool} (hm0 : takeC I a dA mem hand first many av moment stamp giver nth rows again ∈ ps) (p : (["deed", "hand", "memory", "first", "many", "answer", "moment", "stamp", "giver", "nth", "rows", "again"] : List Str) = names) : RdF K ps a "stamp" (.int stamp) := fun H s => by
  obtain ⟨l1, l2, rfl⟩ := List.append_of_mem hm0
  obtain ⟨z, s⟩ := open_takeC (.hd) (s.perm List.perm_middle)
  exact s.rf (r := []) (List.mem_cons_self ..) (by rw [List.append_nil]; exact p) (by first | exact List.mem_cons_self | (repeat (first | exact List.mem_cons_self | refine List.mem_cons_of_mem _ ?_)))
theorem rdf_takeC_giver {K : PySem.W.Frag} {names : List Str} {I : CI K names} {ps : List HP} {a : Addr} {dA mem : Addr} {hand first many : Nat} {av : V} {moment stamp : Int} {giver : Nat} {nth : Int} {rows : List (List Int)} {again : Bool} (hm0 : takeC I a dA mem hand first many av moment stamp giver nth rows again ∈ ps) (p : (["deed", "hand", "memory", "first", "many", "answer", "moment", "stamp", "giver", "nth", "rows", "again"] : List Str) = names) : RdF K ps a "giver" (.int giver) := fun H s => by
  obtain ⟨l1, l2, rfl⟩ := List.append_of_mem hm0
  obtain ⟨z, s⟩ := open_takeC (.hd) (s.perm List.perm_middle)
  exact s.rf (r := []) (List.mem_cons_self ..) (by rw [List.append_nil]; exact p) (by first | exact List.mem_cons_self | (repeat (first | exact List.mem_cons_self | refine List.mem_cons_of_mem _ ?_)))
theorem rdf_takeC_nth {K : PySem.W.Frag} {names : List Str} {I : CI K names} {ps : List HP} {a : Addr} {dA mem : Addr} {hand first many : Nat} {av : V} {moment stamp : Int} {giver : Nat} {nth : Int} {rows : List (List Int)} {again : Bool} (hm0 : takeC I a dA mem hand first many av moment stamp giver nth rows again ∈ ps) (p : (["deed", "hand", "memory", "first", "many", "answer", "moment", "stamp", "giver", "nth", "rows", "again"] : List Str) = names) : RdF K ps a "nth" (.int nth) := fun H s => by
  obtain ⟨l1, l2, rfl⟩ := List.append_of_mem hm0
  obtain ⟨z, s⟩ := open_takeC (.hd) (s.perm List.perm_middle)
  exact s.rf (r := []) (List.mem_cons_self ..) (by rw [List.append_nil]; exact p) (by first | exact List.mem_cons_self | (repeat (first | exact List.mem_cons_self | refine List.mem_cons_of_mem _ ?_)))
end Sp
namespace Sp
open PySem PySem.Spec PyProof.Rows L2 Mir
section
variable {R ps : List HP} {p q : Addr} {l : List Int} {v : V} {o : Option (List Int)} {α : Type}
theorem optN : Ent R (optC .non none :: R) := fun H s => by unfold optC; exact Sat.pur.mpr ⟨rfl, s⟩
theorem optL : Ent (pt p (.lst (l.map V.int)) :: R) (optC (.ref p) (some l) :: R) := fun H s => by
  unfold optC
  exact Sat.ex.mpr ⟨p, Sat.grp.mpr (Sat.pur.mpr ⟨rfl, s⟩)⟩
theorem opn_optN {H : Hp} (s : Sat H (optC v none :: R)) : v = .non ∧ Sat H R := by
  unfold optC at s
  exact Sat.pur.mp s
theorem opn_optL {H : Hp} (s : Sat H (optC v (some l) :: R)) : ∃ p, v = .ref p ∧ Sat H (pt p (.lst (l.map V.int)) :: R) := by
  unfold optC at s
  obtain ⟨p, s⟩ := Sat.ex.mp s
  obtain ⟨e, s⟩ := Sat.pur.mp (Sat.grp.mp s)
  exact ⟨p, e, s⟩
variable {n i : Nat} {f g : Nat → HP}
theorem Ent.emp_in : Ent R (emp :: R) := fun H s => by unfold emp; exact Sat.grp.mpr s
theorem Ent.emp_out : Ent (emp :: R) R := fun H s => by unfold emp at s; exact Sat.grp.mp s
theorem range_split (h : i < n) : List.range n = List.range i ++ i :: (List.range' (i + 1) (n - i - 1)) := by
  have e : n = i + (1 + (n - i - 1)) := by omega
  rw [List.range_eq_range', List.range_eq_range']
  conv => lhs; rw [e]
  rw [← List.range'_append (s := 0) (m := i) (n := 1 + (n - i - 1)) (step := 1)]
  congr 1
  rw [← List.range'_append (s := 0 + 1 * i) (m := 1) (n := n - i - 1) (step := 1)]
  simp [List.range']
theorem range'_gt {k s c : Nat} (h : k ∈ List.range' s c) : s ≤ k := by
  have := List.mem_range'.mp h
  obtain ⟨j, _, e⟩ := this
  omega
theorem eachR_open (h : i < n) : Ent (eachR n f :: R) (f i :: eachR n (hole f i) :: R) := by
  intro H s
  unfold eachR at s ⊢
  have s := Sat.grp.mp s
  rw [range_split h, List.map_append, List.map_cons, List.append_assoc] at s
  have s := s.perm (List.perm_middle (l₁ := (List.range i).map f) (l₂ := (List.range' (i + 1) (n - i - 1)).map f ++ R) (a := f i))
  refine (Ent.cons (p := f i) ?_) H s
  intro H s
  refine Sat.grp.mpr ?_
  rw [range_split h, List.map_append, List.map_cons, List.append_assoc]
  have e1 : (List.range i).map (hole f i) = (List.range i).map f := List.map_congr_left fun k hk => by
    unfold hole; rw [if_neg]; have := List.mem_range.mp hk; omega
  have e2 : (List.range' (i + 1) (n - i - 1)).map (hole f i) = (List.range' (i + 1) (n - i - 1)).map f := List.map_congr_left fun k hk => by
    unfold hole; rw [if_neg]; have := range'_gt hk; omega
  rw [e1, e2]
  refine Sat.perm List.perm_middle.symm ?_
  have e3 : hole f i i = emp := if_pos rfl
  rw [e3]
  exact Ent.emp_in H s
theorem eachR_close (h : i < n) (e : ∀ k, k < n → k ≠ i → g k = f k) : Ent (g i :: eachR n (hole f i) :: R) (eachR n g :: R) := by
  intro H s
  unfold eachR at s ⊢
  refine Sat.grp.mpr ?_
  have s := (Ent.cons (p := g i) (fun H s => Sat.grp.mp s)) H s
  rw [range_split h, List.map_append, List.map_cons, List.append_assoc] at s ⊢
  have e1 : (List.range i).map (hole f i) = (List.range i).map g := List.map_congr_left fun k hk => by
    have hk := List.mem_range.mp hk
    unfold hole; rw [if_neg (by omega), e k (by omega) (by omega)]
  have e2 : (List.range' (i + 1) (n - i - 1)).map (hole f i) = (List.range' (i + 1) (n - i - 1)).map g := List.map_congr_left fun k hk => by
    have h1 := range'_gt hk
    obtain ⟨j, hj, h2⟩ := List.mem_range'.mp hk
    unfold hole; rw [if_neg (by omega), e k (by omega) (by omega)]
  have e3 : hole f i i = emp := if_pos rfl
  rw [e1, e2, e3] at s
  refine Sat.perm List.perm_middle.symm ?_
  refine (Ent.cons (p := g i) ?_) H s
  intro H s
  exact Ent.emp_out H (s.perm List.perm_middle)
theorem eachR_congr (e : ∀ k, k < n → g k = f k) : Ent (eachR n f :: R) (eachR n g :: R) := by
  have e1 : (List.range n).map g = (List.range n).map f := List.map_congr_left fun k hk => e k (List.mem_range.mp hk)
  intro H s
  unfold eachR at s ⊢
  rw [e1]; exact s
theorem eachR_mono (e : ∀ k, k < n → Ent [f k] [g k]) : Ent (eachR n f :: R) (eachR n g :: R) := by
  intro H s
  unfold eachR at s ⊢
  have s := Sat.grp.mp s
  refine Sat.grp.mpr ?_
  have key : ∀ l : List Nat, (∀ k ∈ l, k < n) → Ent (l.map f ++ R) (l.map g ++ R) := by
    intro l
    induction l with
    | nil => intro _; exact Ent.rf
    | cons k l ih =>
      intro hl
      have h1 : Ent (f k :: (l.map f ++ R)) (g k :: (l.map f ++ R)) := Ent.left (R := l.map f ++ R) (e k (hl k (List.mem_cons_self ..)))
      exact h1.trans (Ent.cons (ih fun j hj => hl j (List.mem_cons_of_mem _ hj)))
  exact key _ (fun k hk => List.mem_range.mp hk) H s
theorem eachR_snoc (e : ∀ k, k < n → g k = f k) : Ent (g n :: eachR n f :: R) (eachR (n + 1) g :: R) := by
  intro H s
  have s := ((Ent.cons (p := g n) (eachR_congr (g := g) e)) H s)
  unfold eachR at s ⊢
  refine Sat.grp.mpr ?_
  have s := (Ent.cons (p := g n) (fun H s => Sat.grp.mp s)) H s
  rw [List.range_succ, List.map_append, List.map_cons, List.map_nil, List.append_assoc]
  exact Sat.perm List.perm_middle.symm s
theorem eachR_zero : Ent R (eachR 0 f :: R) := fun H s => by unfold eachR; exact Sat.grp.mpr s
theorem Ent.memP {c : HP} (m : c ∈ ps) : Ent ps [c] := by
  obtain ⟨l1, l2, rfl⟩ := List.append_of_mem m
  exact (Ent.perm List.perm_middle).trans (Ent.cons fun H _ => Sat.nil)
theorem eachR_at (m : eachR n f ∈ ps) (h : i < n) : Ent ps [f i] := (Ent.memP m).trans ((eachR_open h).trans (Ent.cons fun H _ => Sat.nil))
theorem open_lists {rows : List (List Int)} {H : Hp} (pk : Pick (listsC q rows) ps R) (zs : Sat H ps) : ∃ z : { as : List Addr // as.length = rows.length }, Sat H (pt q (.lst (z.1.map V.ref)) :: eachR rows.length (fun i => pt (z.1.getD i 0) (.lst ((rows.getD i []).map V.int))) :: R) := by
  have zs := zs.perm pk.perm
  unfold listsC at zs
  obtain ⟨z, zs⟩ := Sat.ex.mp zs
  exact ⟨z, Sat.grp.mp zs⟩
theorem ent_lists {rows : List (List Int)} {as : List Addr} (e : as.length = rows.length) : Ent (pt q (.lst (as.map V.ref)) :: eachR rows.length (fun i => pt (as.getD i 0) (.lst ((rows.getD i []).map V.int))) :: R) (listsC q rows :: R) := fun H z => by
  unfold listsC
  exact Sat.ex.mpr ⟨⟨as, e⟩, Sat.grp.mpr z⟩
theorem getD_snoc_lt {α : Type} {xs : List α} {x d : α} {i : Nat} (h : i < xs.length) : (xs ++ [x]).getD i d = xs.getD i d := by
  rw [List.getD_eq_getElem?_getD, List.getD_eq_getElem?_getD, List.getElem?_append_left h]
theorem getD_snoc_eq {α : Type} {xs : List α} {x d : α} {i : Nat} (h : i = xs.length) : (xs ++ [x]).getD i d = x := by
  subst h
  rw [List.getD_eq_getElem?_getD, List.getElem?_append_right (Nat.le_refl _)]; simp
theorem ent_lists_snoc {rows : List (List Int)} {as : List Addr} {r : List Int} {b : Addr} (e : as.length = rows.length) : Ent (pt q (.lst (as.map V.ref ++ [.ref b])) :: pt b (.lst (r.map V.int)) :: eachR rows.length (fun i => pt (as.getD i 0) (.lst ((rows.getD i []).map V.int))) :: R) (listsC q (rows ++ [r]) :: R) := by
  have e1 : as.map V.ref ++ [V.ref b] = (as ++ [b]).map V.ref := by rw [List.map_append]; rfl
  rw [e1]
  refine Ent.trans (Ent.cons ?_) (ent_lists (as := as ++ [b]) (by simp [e]))
  rw [List.length_append]
  have h0 : (pt b (.lst (r.map V.int))) = (fun i => pt ((as ++ [b]).getD i 0) (.lst (((rows ++ [r]).getD i []).map V.int))) rows.length := by
    show _ = pt ((as ++ [b]).getD rows.length 0) (.lst (((rows ++ [r]).getD rows.length []).map V.int))
    rw [getD_snoc_eq rfl, getD_snoc_eq e.symm]
  rw [h0]
  refine eachR_snoc (g := fun i => pt ((as ++ [b]).getD i 0) (.lst (((rows ++ [r]).getD i []).map V.int))) fun k hk => ?_
  show pt ((as ++ [b]).getD k 0) (.lst (((rows ++ [r]).getD k []).map V.int)) = _
  rw [getD_snoc_lt hk, getD_snoc_lt (by omega)]
theorem ent_lists_nil : Ent (pt q (.lst []) :: R) (listsC q [] :: R) := (Ent.cons eachR_zero).trans (ent_lists (rows := []) (as := []) rfl)
end
noncomputable abbrev nmWork : List Str := ["deed", "hand", "memory", "first", "many", "answer", "moment", "stamp", "giver", "nth"]
structure HI (K : PySem.W.Frag) where
  Boxes : CI K ["many", "numbers", "log"]
  Scan : CI K ["first", "many", "ahead", "row", "moved", "until", "view", "moment"]
  Memory : CI K ["ones", "puts", "cells", "gifts", "took"]
  One : CI K ["deed", "hand", "memory", "first", "many", "answer", "moment", "stamp", "giver", "nth"]
  Count : CI K ["deed", "hand", "memory", "first", "many", "answer", "moment", "stamp", "giver", "nth", "row"]
  Look : CI K ["deed", "hand", "memory", "first", "many", "answer", "moment", "stamp", "giver", "nth", "scan"]
  Change : CI K ["deed", "hand", "memory", "first", "many", "answer", "moment", "stamp", "giver", "nth", "scan"]
  Give : CI K ["deed", "hand", "memory", "first", "many", "answer", "moment", "stamp", "giver", "nth", "read"]
  Take : CI K ["deed", "hand", "memory", "first", "many", "answer", "moment", "stamp", "giver", "nth", "rows", "again"]
  Done : CI K ["work", "begin", "end"]
  Hall : CI K ["many", "plans", "boxes", "memories", "underway", "begins", "own", "hands", "lent", "ended"]
@[irreducible] noncomputable def workC {K : PySem.W.Frag} (I : HI K) (a dA mem : Addr) (many : Nat) (av : V) (w : WorkS) : HP := match w.x with
  | .one => oneC I.One a dA mem w.hand (thing w.deed * many) many av w.moment w.stamp w.giver w.nth
  | .count row => countC I.Count a dA mem w.hand (thing w.deed * many) many av w.moment w.stamp w.giver w.nth row
  | .look s => exh fun sc => grp [scanWC I.Look a dA mem w.hand (thing w.deed * many) many av w.moment w.stamp w.giver w.nth sc, scanC I.Scan sc (thing w.deed * many) many s]
  | .change s => exh fun sc => grp [scanWC I.Change a dA mem w.hand (thing w.deed * many) many av w.moment w.stamp w.giver w.nth sc, scanC I.Scan sc (thing w.deed * many) many s]
  | .give read => giveC I.Give a dA mem w.hand (thing w.deed * many) many av w.moment w.stamp w.giver w.nth read
  | .take rows again => takeC I.Take a dA mem w.hand (thing w.deed * many) many av w.moment w.stamp w.giver w.nth rows again
section
variable {K : PySem.W.Frag} {I : HI K} {a dA mem : Addr} {many : Nat} {av : V} {w : WorkS} {R ps : List HP}
noncomputable def WC.C (I : HI K) : WC → Addr
  | .one => I.One.C | .count => I.Count.C | .look => I.Look.C | .change => I.Change.C | .give => I.Give.C | .take => I.Take.C
noncomputable def allW : List Str := ["deed", "hand", "memory", "first", "many", "answer", "moment", "stamp", "giver", "nth", "row", "scan", "read", "rows", "again"]
theorem meth_work {f : Str} {k : List HP → Prop} (hm0 : workC I a dA mem many av w ∈ ps) (n1 : f ∉ allW) (q : k ps) : MethG (WC.C I w.x.cls) f (.ref a) ps k := by
  refine methC hm0 (fun H R s => ?_) q
  have sub : ∀ (l : List Str), (∀ g ∈ l, g ∈ allW) → f ∉ l := fun l h m => n1 (h f m)
  unfold workC at s
  obtain ⟨deed, hand, ans, moment, stamp, giver, nth, x⟩ := w
  cases x with
  | one =>
    dsimp only at s
    obtain ⟨z, s⟩ := open_oneC .hd s
    obtain ⟨dx, e⟩ := s.obj (List.mem_cons_self ..)
    exact ⟨dx, _, e, lookup_not (by simp only [List.map_cons, List.map_nil]; exact sub ["deed", "hand", "memory", "first", "many", "answer", "moment", "stamp", "giver", "nth"] (by decide +kernel))⟩
  | count row =>
    dsimp only at s
    obtain ⟨z, s⟩ := open_countC .hd s
    obtain ⟨dx, e⟩ := s.obj (List.mem_cons_self ..)
    exact ⟨dx, _, e, lookup_not (by simp only [List.map_cons, List.map_nil]; exact sub ["deed", "hand", "memory", "first", "many", "answer", "moment", "stamp", "giver", "nth", "row"] (by decide +kernel))⟩
  | look sc =>
    dsimp only at s
    obtain ⟨q, s⟩ := Sat.ex.mp s
    obtain ⟨z, s⟩ := open_scanWC .hd (Sat.grp.mp s)
    obtain ⟨dx, e⟩ := s.obj (List.mem_cons_self ..)
    exact ⟨dx, _, e, lookup_not (by simp only [List.map_cons, List.map_nil]; exact sub ["deed", "hand", "memory", "first", "many", "answer", "moment", "stamp", "giver", "nth", "scan"] (by decide +kernel))⟩
  | change sc =>
    dsimp only at s
    obtain ⟨q, s⟩ := Sat.ex.mp s
    obtain ⟨z, s⟩ := open_scanWC .hd (Sat.grp.mp s)
    obtain ⟨dx, e⟩ := s.obj (List.mem_cons_self ..)
    exact ⟨dx, _, e, lookup_not (by simp only [List.map_cons, List.map_nil]; exact sub ["deed", "hand", "memory", "first", "many", "answer", "moment", "stamp", "giver", "nth", "scan"] (by decide +kernel))⟩
  | give read =>
    dsimp only at s
    obtain ⟨z, s⟩ := open_giveC .hd s
    obtain ⟨dx, e⟩ := s.obj (List.mem_cons_self ..)
    exact ⟨dx, _, e, lookup_not (by simp only [List.map_cons, List.map_nil]; exact sub ["deed", "hand", "memory", "first", "many", "answer", "moment", "stamp", "giver", "nth", "read"] (by decide +kernel))⟩
  | take rows again =>
    dsimp only at s
    obtain ⟨z, s⟩ := open_takeC .hd s
    obtain ⟨dx, e⟩ := s.obj (List.mem_cons_self ..)
    exact ⟨dx, _, e, lookup_not (by simp only [List.map_cons, List.map_nil]; exact sub ["deed", "hand", "memory", "first", "many", "answer", "moment", "stamp", "giver", "nth", "rows", "again"] (by decide +kernel))⟩
end
structure WorkR (K : PySem.W.Frag) (ps : List HP) (a dA : Addr) (av : V) (w : WorkS) : Prop where
  deed : RdF K ps a "deed" (.ref dA)
  hand : RdF K ps a "hand" (.int w.hand)
  answer : RdF K ps a "answer" av
  moment : RdF K ps a "moment" (.int w.moment)
  stamp : RdF K ps a "stamp" (.int w.stamp)
  giver : RdF K ps a "giver" (.int w.giver)
  nth : RdF K ps a "nth" (.int w.nth)
section
variable {K : PySem.W.Frag} {I : HI K} {a dA mem : Addr} {many : Nat} {av : V} {w : WorkS} {R ps ps' : List HP}
theorem RdF.ent {f : Str} {v : V} (e : Ent ps ps') (h : RdF K ps' a f v) : RdF K ps a f v := fun H s => h H (e H s)
theorem RdF.of1 {f : Str} {v : V} {c : HP} (m : c ∈ ps) (h : RdF K [c] a f v) : RdF K ps a f v := RdF.ent (Ent.memP m) h
theorem WorkR.ent (e : Ent ps ps') (h : WorkR K ps' a dA av w) : WorkR K ps a dA av w := ⟨h.deed.ent e, h.hand.ent e, h.answer.ent e, h.moment.ent e, h.stamp.ent e, h.giver.ent e, h.nth.ent e⟩
theorem workR : WorkR K [workC I a dA mem many av w] a dA av w := by
  obtain ⟨deed, hand, ans, moment, stamp, giver, nth, x⟩ := w
  unfold workC
  cases x with
  | one => dsimp only; exact ⟨rdf_oneC_deed (List.mem_cons_self ..) rfl, rdf_oneC_hand (List.mem_cons_self ..) rfl, rdf_oneC_answer (List.mem_cons_self ..) rfl, rdf_oneC_moment (List.mem_cons_self ..) rfl, rdf_oneC_stamp (List.mem_cons_self ..) rfl, rdf_oneC_giver (List.mem_cons_self ..) rfl, rdf_oneC_nth (List.mem_cons_self ..) rfl⟩
  | count row => dsimp only; exact ⟨rdf_countC_deed (List.mem_cons_self ..) rfl, rdf_countC_hand (List.mem_cons_self ..) rfl, rdf_countC_answer (List.mem_cons_self ..) rfl, rdf_countC_moment (List.mem_cons_self ..) rfl, rdf_countC_stamp (List.mem_cons_self ..) rfl, rdf_countC_giver (List.mem_cons_self ..) rfl, rdf_countC_nth (List.mem_cons_self ..) rfl⟩
  | give read => dsimp only; exact ⟨rdf_giveC_deed (List.mem_cons_self ..) rfl, rdf_giveC_hand (List.mem_cons_self ..) rfl, rdf_giveC_answer (List.mem_cons_self ..) rfl, rdf_giveC_moment (List.mem_cons_self ..) rfl, rdf_giveC_stamp (List.mem_cons_self ..) rfl, rdf_giveC_giver (List.mem_cons_self ..) rfl, rdf_giveC_nth (List.mem_cons_self ..) rfl⟩
  | take rows again => dsimp only; exact ⟨rdf_takeC_deed (List.mem_cons_self ..) rfl, rdf_takeC_hand (List.mem_cons_self ..) rfl, rdf_takeC_answer (List.mem_cons_self ..) rfl, rdf_takeC_moment (List.mem_cons_self ..) rfl, rdf_takeC_stamp (List.mem_cons_self ..) rfl, rdf_takeC_giver (List.mem_cons_self ..) rfl, rdf_takeC_nth (List.mem_cons_self ..) rfl⟩
  | look s =>
    dsimp only
    have k : ∀ {f : Str} {v : V}, (∀ sc R, RdF K (scanWC I.Look a dA mem hand (thing deed * many) many av moment stamp giver nth sc :: R) a f v) → RdF K [exh fun sc => grp [scanWC I.Look a dA mem hand (thing deed * many) many av moment stamp giver nth sc, scanC I.Scan sc (thing deed * many) many s]] a f v := fun h H z => let ⟨sc, z⟩ := Sat.ex.mp z; h sc _ H (Sat.grp.mp z)
    exact ⟨k fun _ _ => rdf_scanWC_deed (List.mem_cons_self ..) rfl, k fun _ _ => rdf_scanWC_hand (List.mem_cons_self ..) rfl, k fun _ _ => rdf_scanWC_answer (List.mem_cons_self ..) rfl, k fun _ _ => rdf_scanWC_moment (List.mem_cons_self ..) rfl, k fun _ _ => rdf_scanWC_stamp (List.mem_cons_self ..) rfl, k fun _ _ => rdf_scanWC_giver (List.mem_cons_self ..) rfl, k fun _ _ => rdf_scanWC_nth (List.mem_cons_self ..) rfl⟩
  | change s =>
    dsimp only
    have k : ∀ {f : Str} {v : V}, (∀ sc R, RdF K (scanWC I.Change a dA mem hand (thing deed * many) many av moment stamp giver nth sc :: R) a f v) → RdF K [exh fun sc => grp [scanWC I.Change a dA mem hand (thing deed * many) many av moment stamp giver nth sc, scanC I.Scan sc (thing deed * many) many s]] a f v := fun h H z => let ⟨sc, z⟩ := Sat.ex.mp z; h sc _ H (Sat.grp.mp z)
    exact ⟨k fun _ _ => rdf_scanWC_deed (List.mem_cons_self ..) rfl, k fun _ _ => rdf_scanWC_hand (List.mem_cons_self ..) rfl, k fun _ _ => rdf_scanWC_answer (List.mem_cons_self ..) rfl, k fun _ _ => rdf_scanWC_moment (List.mem_cons_self ..) rfl, k fun _ _ => rdf_scanWC_stamp (List.mem_cons_self ..) rfl, k fun _ _ => rdf_scanWC_giver (List.mem_cons_self ..) rfl, k fun _ _ => rdf_scanWC_nth (List.mem_cons_self ..) rfl⟩
end
noncomputable abbrev Pool := List (Addr × List V)
noncomputable def DeedsIn (L : Pool) (das : List Addr) (ds : List Deed) : Prop := das.length = ds.length ∧ ∀ (i : Nat) (a : Addr) (d : Deed), das[i]? = some a → ds[i]? = some d → (a, d.vals) ∈ L
@[irreducible] noncomputable def plansC (L : Pool) (q : Addr) (plans : List (List Deed)) : HP :=
  exh fun z : { z : List Addr × List (List Addr) // z.1.length = plans.length ∧ z.2.length = plans.length ∧ ∀ h, h < plans.length → DeedsIn L (z.2.getD h []) (plans.getD h []) } =>
    grp [pt q (.lst (z.1.1.map V.ref)), eachR plans.length fun i => pt (z.1.1.getD i 0) (.lst ((z.1.2.getD i []).map V.ref))]
@[irreducible] noncomputable def underC {K : PySem.W.Frag} (I : HI K) (L : Pool) (mem : Addr) (many : Nat) (v : V) : Option WorkS → HP
  | none => pur (v = .non)
  | some w => exh fun z : Addr × Addr × V => grp [pur (v = .ref z.1 ∧ (z.2.1, w.deed.vals) ∈ L), workC I z.1 z.2.1 mem many z.2.2 w, ansC z.2.2 w.ans]
@[irreducible] noncomputable def doneC {K : PySem.W.Frag} (I : HI K) (L : Pool) (many : Nat) (ea : Addr) (d : DoneS) : HP :=
  exh fun z : Addr × Addr × Addr × V => grp [pur ((z.2.1, d.work.deed.vals) ∈ L ∧ AnsR L z.2.2.2 d.work.ans), obj I.Done ea [("work", .ref z.1), ("begin", .int d.b), ("end", .int d.e)], workC I z.1 z.2.1 z.2.2.1 many z.2.2.2 d.work]
noncomputable def natsV (l : List Nat) : List V := l.map fun (n : Nat) => V.int n
@[irreducible] noncomputable def endedC {K : PySem.W.Frag} (I : HI K) (L : Pool) (many : Nat) (q : Addr) (es : List DoneS) : HP :=
  exh fun as : { as : List Addr // as.length = es.length } => grp [pt q (.lst (as.1.map V.ref)), eachR es.length fun i => doneC I L many (as.1.getD i 0) (es.getD i default)]
structure HAd (m : Nat) where
  plans : Addr
  boxes : Addr
  memories : Addr
  underway : Addr
  begins : Addr
  own : Addr
  hands : Addr
  lent : Addr
  ended : Addr
  ms : List Addr
  us : List V
  lm : ms.length = m
  lu : us.length = m
@[irreducible] noncomputable def hallC {K : PySem.W.Frag} (I : HI K) (x : Addr) (L : Pool) (S : HallS) : HP :=
  exh fun z : HAd S.many => grp [obj I.Hall x [("many", .int S.many), ("plans", .ref z.plans), ("boxes", .ref z.boxes), ("memories", .ref z.memories), ("underway", .ref z.underway), ("begins", .ref z.begins), ("own", .ref z.own), ("hands", .ref z.hands), ("lent", .ref z.lent), ("ended", .ref z.ended)],
    plansC L z.plans S.plans,
    boxC I.Boxes z.boxes S.boxes S.log,
    pt z.memories (.lst (z.ms.map V.ref)),
    eachR S.many fun h => memC I.Memory (z.ms.getD h 0) (S.mems.getD h (.new S.many)),
    pt z.underway (.lst z.us),
    eachR S.many fun h => underC I L (z.ms.getD h 0) S.many (z.us.getD h .non) (S.underway.getD h none),
    pt z.begins (.lst (natsV S.begins)),
    pt z.own (.lst (natsV S.own)),
    pt z.hands (.lst (natsV S.hands)),
    pt z.lent (.dT (lentK S.lent)),
    endedC I L S.many z.ended S.ended]
end Sp
set_option Elab.async false
set_option linter.all false
set_option maxRecDepth 100000
set_option maxHeartbeats 4000000
namespace Sp
open PySem PySem.Spec PyProof.Rows L2 Mir
theorem mv_get (mv : List Nat) (k : Nat) : valV (mvK mv) (Sum.inl (k : Int)) = if k ∈ mv then some (.bl true) else none := by
  induction mv with
  | nil => rfl
  | cons j r ih =>
    have e : mvK (j :: r) = (Sum.inl (j : Int), V.bl true) :: mvK r := rfl
    rw [e]
    by_cases h : j = k
    · subst h
      rw [valV_pos rfl, if_pos (List.mem_cons_self ..)]
    · rw [valV_neg (fun z => h (by have := Sum.inl.inj z; omega)), ih]
      by_cases h2 : k ∈ r
      · rw [if_pos h2, if_pos (List.mem_cons_of_mem _ h2)]
      · rw [if_neg h2, if_neg (by rw [List.mem_cons]; rintro (z | z); exact h z.symm; exact h2 z)]
theorem mv_put {mv : List Nat} {k : Nat} (h : k ∉ mv) : putK (mvK mv) (Sum.inl (k : Int)) (.bl true) = mvK (mv ++ [k]) := by
  rw [putK_new _ (by rw [mv_get, if_neg h])]
  simp [mvK]
theorem lent_get (l : Lent) (p : Nat) (n : Int) : valV (lentK l) [Sum.inl (p : Int), Sum.inl n] = (l.lookup (p, n)).map V.int := by
  induction l with
  | nil => rfl
  | cons e r ih =>
    obtain ⟨⟨q, m⟩, v⟩ := e
    have e : lentK (((q, m), v) :: r) = ([Sum.inl (q : Int), Sum.inl m], V.int v) :: lentK r := rfl
    rw [e, List.lookup_cons]
    by_cases h : (q, m) = (p, n)
    · cases h
      rw [valV_pos rfl]
      simp
    · rw [valV_neg (fun z => h (by
        have h1 : ([Sum.inl (q : Int), Sum.inl m] : List Key) = [Sum.inl (p : Int), Sum.inl n] := z
        injection h1 with h1 h2
        injection h2 with h2 _
        have h1 := Sum.inl.inj h1
        have h2 := Sum.inl.inj h2
        rw [Prod.mk.injEq]
        omega)), ih]
      have hb : ((p, n) == (q, m)) = false := by
        rw [beq_eq_false_iff_ne]
        exact fun z => h z.symm
      rw [hb]
theorem lent_put {l : Lent} {p : Nat} {n v : Int} (h : l.lookup (p, n) = none) : putK (lentK l) [Sum.inl (p : Int), Sum.inl n] (.int v) = lentK (lentPut l p n v) := by
  rw [putK_new _ (by rw [lent_get, h]; rfl)]
  simp [lentK, lentPut]
section
variable {K : PySem.W.Frag} {ps ps' R : List HP} {a b : Addr} {mv : List Nat} {l : Lent} {p k : Nat} {n v : Int}
theorem dinMv {Φ : Bool → List HP → Prop} (m : pt a (.dK (mvK mv)) ∈ ps) (q : Φ (decide (k ∈ mv)) ps) : DInG (.ref a) (.int (k : Int)) ps Φ := by
  refine ⟨a, _, rfl, dgetK (q := Sum.inl (k : Int)) m rfl, ?_⟩
  rw [mv_get]
  by_cases h : k ∈ mv
  · rw [if_pos h]; rw [decide_eq_true h] at q; exact q
  · rw [if_neg h]; rw [decide_eq_false h] at q; exact q
theorem dputMv {q : List HP → Prop} (h : k ∉ mv) (m : Rep (pt a (.dK (mvK mv))) (pt a (.dK (mvK (mv ++ [k])))) ps ps') (hl : mv.length ≤ 100000) (z : q ps') : DPutG (.ref a) (.int (k : Int)) (.bl true) ps q := by
  have m2 := m
  rw [← mv_put h] at m2
  refine dputK (q := Sum.inl (k : Int)) rfl m2 ?_ z
  have : (mvK mv).length = mv.length := by simp [mvK]
  exact Nat.lt_of_le_of_lt (m := 1000000) (by omega) (by decide)
theorem dgetLent {Φ : V → List HP → Prop} (m : pt a (.dT (lentK l)) ∈ ps) (m2 : pt b (.tup [.int (p : Int), .int n]) ∈ ps) (h : (l.lookup (p, n)).isSome = true) (q : Φ (.int (lentF l p n)) ps) : DGetG (.ref a) (.ref b) ps Φ := by
  refine ⟨a, .int (lentF l p n), rfl, ?_, q⟩
  have e : some (V.int (lentF l p n)) = valV (lentK l) [Sum.inl (p : Int), Sum.inl n] := by
    rw [lent_get]
    unfold lentF
    cases h2 : l.lookup (p, n) with
    | none => rw [h2] at h; cases h
    | some x => rfl
  rw [e]
  exact dgetT m m2
theorem dputLent {q : List HP → Prop} (h : l.lookup (p, n) = none) (m2 : pt b (.tup [.int (p : Int), .int n]) ∈ ps) (m : Rep (pt a (.dT (lentK l))) (pt a (.dT (lentK (lentPut l p n v)))) ps ps') (hl : l.length ≤ 100000) (z : q ps') : DPutG (.ref a) (.ref b) (.int v) ps q := by
  have m3 := m
  rw [← lent_put h] at m3
  refine dputT (q := [Sum.inl (p : Int), Sum.inl n]) m2 m3 ?_ z
  have : (lentK l).length = l.length := by simp [lentK]
  exact Nat.lt_of_le_of_lt (m := 1000000) (by omega) (by decide)
theorem rdl_nats {ns : List Nat} (h : RdL K ps a (natsV ns)) : RdL K ps a ((ns.map fun (n : Nat) => (n : Int)).map V.int) := by
  have e : (ns.map fun (n : Nat) => (n : Int)).map V.int = natsV ns := by simp [natsV, List.map_map, Function.comp_def]
  rw [e]; exact h
theorem natsV_len (ns : List Nat) : (natsV ns).length = ns.length := by simp [natsV]
theorem w2_ixN {Φ : V → List HP → Prop} {ns : List Nat} {i : Int} (h : RdL K ps a (natsV ns)) (g : 0 ≤ i ∧ i < (ns.length : Int)) (k : Φ (.int (ns.getD i.toNat 0 : Nat)) ps) : W2 (rIxL K) (.ref a) (.int i) ps Φ := by
  refine w2_ixL h (atI_of (j := i.toNat) (by omega) ?_) k
  unfold natsV
  rw [List.getElem?_map, getD_lt (d := 0) (by omega)]
  rfl
theorem wst_LN {Ψ : List HP → Prop} {ns : List Nat} {i : Int} {x : Nat} (m : Rep (pt a (.lst (natsV ns))) (pt a (.lst (natsV (ns.set i.toNat x)))) ps ps') (g : 0 ≤ i ∧ i < (ns.length : Int)) (k : Ψ ps') : Wst rSetL (.ref a) (.int i) (.int (x : Int)) ps Ψ := by
  have e : natsV (ns.set i.toNat x) = (natsV ns).set i.toNat (.int (x : Int)) := by unfold natsV; rw [List.map_set]
  rw [e] at m
  exact wst_Lz m g.1 (by rw [natsV_len]; omega) k
end
end Sp
namespace Sp
open PySem PySem.Spec PyProof.Rows L2 Mir
section
variable {K : PySem.W.Frag} {ps ps' R : List HP} {v : V} {l : List Int} {n : Nat} {a : Addr} {Φ : V → List HP → Prop}
theorem opn_optS (pk : Pick (optC v (some l)) ps R) : Opn ps fun z : { p : Addr // v = .ref p } => pt z.1 (.lst (l.map V.int)) :: R := fun H s => let ⟨p, e, s⟩ := opn_optL (s.perm pk.perm); ⟨⟨p, e⟩, s⟩
theorem opn_optZ (pk : Pick (optC v none) ps R) : Opn ps fun _ : { _u : Unit // v = .non } => R := fun H s => let ⟨e, s⟩ := opn_optN (s.perm pk.perm); ⟨⟨(), e⟩, s⟩
theorem ent_scanNew {names : List Str} {I : CI K names} {a q1 q2 : Addr} {first many : Nat} : Ent (obj I a [("first", .int first), ("many", .int many), ("ahead", .non), ("row", .ref q1), ("moved", .ref q2), ("until", .int 0), ("view", .non), ("moment", .int 0)] :: pt q1 (.lst []) :: pt q2 (.dK []) :: R) (scanC I a first many .new :: R) := by
  have h := @ent_scanC K names I R a first many Mir.ScanS.new q1 q2 .non .non
  exact (Ent.cons (Ent.cons (Ent.cons (optN.trans (Ent.cons optN))))).trans h
theorem filter_range_succ {p : Nat → Bool} {i : Nat} : (List.range (i + 1)).filter p = (List.range i).filter p ++ (if p i then [i] else []) := by
  rw [List.range_succ, List.filter_append]
  congr 1
  cases h : p i <;> simp [h]
theorem natsV_snoc (ns : List Nat) (n : Nat) : natsV ns ++ [.int (n : Int)] = natsV (ns ++ [n]) := by simp [natsV]
theorem natsV_get {ns : List Nat} {i : Nat} {n : Nat} (h : ns[i]? = some n) : (natsV ns)[i]? = some (.int (n : Int)) := by unfold natsV; rw [List.getElem?_map, h]; rfl
theorem w2_eqNats {b : Addr} {ns : List Nat} (h : RdL K ps a (natsV ns)) (g : RdL K ps b []) (k : Φ (.bl (decide (ns = []))) ps) : W2 (rEqD K) (.ref a) (.ref b) ps Φ := by
  refine w2_eqNil (ns := ns.map fun (n : Nat) => (n : Int)) (rdl_nats h) g ?_
  have e : decide ((ns.map fun (n : Nat) => (n : Int)) = []) = decide (ns = []) := by
    cases ns <;> rfl
  rw [e]; exact k
end
end Sp
namespace Sp
end Sp
namespace Sp
open PySem PySem.Spec PyProof.Rows L2
theorem cutV_from (xs : List V) (k : Nat) : cutV xs (some (k : Int)) none = xs.drop k := by
  unfold cutV
  rw [HT.sIx_nat, HT.sIx_none]
  by_cases h : k ≤ xs.length
  · rw [Nat.min_eq_left h, List.take_of_length_le (by rw [List.length_drop]; exact Nat.le_refl _)]
  · rw [Nat.min_eq_right (by omega), List.drop_length, List.drop_eq_nil_of_le (by omega)]; simp
theorem cutV_lasts (l : List Int) : cutV (l.map V.int) (some (-2)) (some (-1)) = (Mir.lastStamp l).map V.int := by
  unfold cutV Mir.lastStamp
  have e1 : HT.sIx (l.map V.int).length 0 (some (-2)) = l.length - 2 := by
    show (if (-2 : Int) < 0 then ((-2 : Int) + ((l.map V.int).length : Int)).toNat else min (Int.toNat (-2)) (l.map V.int).length) = _
    rw [if_pos (show (-2 : Int) < 0 by decide), List.length_map]; omega
  have e2 : HT.sIx (l.map V.int).length (l.map V.int).length (some (-1)) = l.length - 1 := by
    show (if (-1 : Int) < 0 then ((-1 : Int) + ((l.map V.int).length : Int)).toNat else min (Int.toNat (-1)) (l.map V.int).length) = _
    rw [if_pos (show (-1 : Int) < 0 by decide), List.length_map]; omega
  rw [e1, e2]
  by_cases h : 2 ≤ l.length
  · rw [if_pos h]
    have e3 : l.length - 1 - (l.length - 2) = 1 := by omega
    have h4 : l.length - 2 < l.length := by omega
    rw [e3, ← List.map_drop, List.drop_eq_getElem_cons h4, List.getD_eq_getElem?_getD, List.getElem?_eq_getElem h4]
    rfl
  · rw [if_neg h]
    have e3 : l.length - 1 - (l.length - 2) = 0 := by omega
    rw [e3]; rfl
end Sp
namespace Sp
open PySem PySem.Spec PyProof.Rows L2
theorem pick_mapNil {a : Addr} {r : List HP} : Pick (pt a (.lst (([] : List Int).map V.int))) (pt a (.lst []) :: r) r := Pick.hd
theorem pick_nats {a : Addr} {r : List HP} : Pick (pt a (.lst (natsV []))) (pt a (.lst []) :: r) r := Pick.hd
end Sp
namespace Sp
open PySem PySem.Spec PyProof.Rows L2
end Sp
set_option Elab.async false
set_option linter.all false
set_option maxRecDepth 100000
set_option maxHeartbeats 4000000
namespace Sp
open PySem PySem.Spec PyProof.Rows L2 Mir
section
variable {K : PySem.W.Frag} {I : HI K} {a dA mem sc : Addr} {many hand giver : Nat} {av : V} {deed : Deed} {ans : Ans} {mo st nth : Int} {s : ScanS} {R ps : List HP} {row : List Int} {read : Nat} {rows : List (List Int)} {again : Bool}
theorem wc_one : workC I a dA mem many av ⟨deed, hand, ans, mo, st, giver, nth, .one⟩ = oneC I.One a dA mem hand (thing deed * many) many av mo st giver nth := by unfold workC; rfl
theorem wc_count : workC I a dA mem many av ⟨deed, hand, ans, mo, st, giver, nth, .count row⟩ = countC I.Count a dA mem hand (thing deed * many) many av mo st giver nth row := by unfold workC; rfl
theorem wc_give : workC I a dA mem many av ⟨deed, hand, ans, mo, st, giver, nth, .give read⟩ = giveC I.Give a dA mem hand (thing deed * many) many av mo st giver nth read := by unfold workC; rfl
theorem wc_take : workC I a dA mem many av ⟨deed, hand, ans, mo, st, giver, nth, .take rows again⟩ = takeC I.Take a dA mem hand (thing deed * many) many av mo st giver nth rows again := by unfold workC; rfl
theorem opn_look : Opn (workC I a dA mem many av ⟨deed, hand, ans, mo, st, giver, nth, .look s⟩ :: R) fun sc : Addr => scanWC I.Look a dA mem hand (thing deed * many) many av mo st giver nth sc :: scanC I.Scan sc (thing deed * many) many s :: R := fun H z => by
  unfold workC at z
  obtain ⟨sc, z⟩ := Sat.ex.mp z
  exact ⟨sc, Sat.grp.mp z⟩
theorem ent_look : Ent (scanWC I.Look a dA mem hand (thing deed * many) many av mo st giver nth sc :: scanC I.Scan sc (thing deed * many) many s :: R) (workC I a dA mem many av ⟨deed, hand, ans, mo, st, giver, nth, .look s⟩ :: R) := fun H z => by
  unfold workC
  exact Sat.ex.mpr ⟨sc, Sat.grp.mpr z⟩
theorem opn_change : Opn (workC I a dA mem many av ⟨deed, hand, ans, mo, st, giver, nth, .change s⟩ :: R) fun sc : Addr => scanWC I.Change a dA mem hand (thing deed * many) many av mo st giver nth sc :: scanC I.Scan sc (thing deed * many) many s :: R := fun H z => by
  unfold workC at z
  obtain ⟨sc, z⟩ := Sat.ex.mp z
  exact ⟨sc, Sat.grp.mp z⟩
theorem ent_change : Ent (scanWC I.Change a dA mem hand (thing deed * many) many av mo st giver nth sc :: scanC I.Scan sc (thing deed * many) many s :: R) (workC I a dA mem many av ⟨deed, hand, ans, mo, st, giver, nth, .change s⟩ :: R) := fun H z => by
  unfold workC
  exact Sat.ex.mpr ⟨sc, Sat.grp.mpr z⟩
end
section
variable {K : PySem.W.Frag} {names : List Str} {I : CI K names} {a q1 q2 q3 q4 : Addr} {m : Nat} {R : List HP}
theorem ent_memNew : Ent (obj I a [("ones", .int 0), ("puts", .ref q1), ("cells", .ref q2), ("gifts", .ref q3), ("took", .ref q4)] :: pt q1 (.dK [(Sum.inr "set", .int 0), (Sum.inr "add", .int 0), (Sum.inr "raise", .int 0)]) :: pt q2 (.dK [(Sum.inr "set", .int 0), (Sum.inr "add", .int 0), (Sum.inr "raise", .int 0)]) :: pt q3 (.lst []) :: pt q4 (.lst ((List.replicate m 0).map V.int)) :: R) (memC I a (.new m) :: R) :=
  ent_memC (m := MemS.new m)
end
theorem thing_le (d : Deed) : thing d ≤ 4 := by cases d <;> simp [thing]
theorem thing_in {d : Deed} {many : Nat} : thing d * many + many ≤ 5 * many := by
  have := Nat.mul_le_mul_right many (thing_le d)
  omega
end Sp
namespace Sp
open Mir
theorem wx_count {d : Deed} (h : (wxNew d).cls = .count) : d = .count := by cases d <;> first | rfl | cases h
theorem wx_take {d : Deed} (h : (wxNew d).cls = .take) : d = .take := by cases d <;> first | rfl | cases h
theorem wx_give {d : Deed} (h : (wxNew d).cls = .give) : ∃ n, d = .give n := by cases d <;> first | exact ⟨_, rfl⟩ | cases h
theorem wx_look {d : Deed} (h : (wxNew d).cls = .look) : wxNew d = .look .new := by cases d <;> first | rfl | cases h
theorem wx_change {d : Deed} (h : (wxNew d).cls = .change) : wxNew d = .change .new := by cases d <;> first | rfl | cases h
end Sp
namespace Sp
open Mir
theorem cls_one {x : WX} (h : x.cls = .one) : x = .one := by cases x <;> first | rfl | cases h
theorem cls_count {x : WX} (h : x.cls = .count) : ∃ r, x = .count r := by cases x <;> first | exact ⟨_, rfl⟩ | cases h
theorem cls_look {x : WX} (h : x.cls = .look) : ∃ r, x = .look r := by cases x <;> first | exact ⟨_, rfl⟩ | cases h
theorem cls_change {x : WX} (h : x.cls = .change) : ∃ r, x = .change r := by cases x <;> first | exact ⟨_, rfl⟩ | cases h
theorem cls_give {x : WX} (h : x.cls = .give) : ∃ r, x = .give r := by cases x <;> first | exact ⟨_, rfl⟩ | cases h
theorem cls_take {x : WX} (h : x.cls = .take) : ∃ r a, x = .take r a := by cases x <;> first | exact ⟨_, _, rfl⟩ | cases h
end Sp
namespace Sp
open PySem PySem.Spec PyProof.Rows L2 Mir
section
variable {K : PySem.W.Frag} {ps R : List HP} {Φ : V → List HP → Prop} {a b p : Addr} {x y : Int} {ns : List Int}
theorem w2_cat2I (h1 : pt a (.lst [.int x, .int y]) ∈ ps) (h2 : pt b (.lst (ns.map V.int)) ∈ ps) (l : ns.length ≤ 100000) (k : ∀ p, Φ (.ref p) (pt p (.lst ((x :: y :: ns).map V.int)) :: ps)) : W2 rCat (.ref a) (.ref b) ps Φ :=
  w2_cat h1 h2 (by rw [List.length_map]; exact Nat.le_trans (m := 1000000) (by simp; omega) (by decide)) fun p => k p
theorem w2_catI2 (h1 : pt a (.lst (ns.map V.int)) ∈ ps) (h2 : pt b (.lst [.int x, .int y]) ∈ ps) (l : ns.length ≤ 100000) (k : ∀ p, Φ (.ref p) (pt p (.lst ((ns ++ [x, y]).map V.int)) :: ps)) : W2 rCat (.ref a) (.ref b) ps Φ :=
  w2_cat h1 h2 (by rw [List.length_map]; exact Nat.le_trans (m := 1000000) (by simp; omega) (by decide)) fun p => by
    have e : ns.map V.int ++ [V.int x, V.int y] = (ns ++ [x, y]).map V.int := by rw [List.map_append]; rfl
    rw [e]; exact k p
end
end Sp
namespace Mir
open Sp
theorem looked_true {first many : Nat} {lent : Lent} {ah : List Int} {s s' : ScanS} (h : lookedF first many lent ah s = (s', true)) (hm : s.row ≠ []) (h3 : ∀ k mv, firstMoved (changedF many s.row ah) s.moved = (some k, mv) → 3 ≤ (un (s.row.getD k 0)).length) : ∃ v, s'.view = some v ∧ v ≠ [] := by
  unfold lookedF at h
  split at h
  · cases h
    exact ⟨_, rfl, fun z => hm (List.map_eq_nil_iff.mp z)⟩
  · split at h
    · rename_i k mv e
      cases h
      refine ⟨_, rfl, fun z => ?_⟩
      have h1 := h3 _ _ e
      have := congrArg List.length z
      rw [List.length_drop, List.length_nil] at this
      omega
    · cases h
theorem scanF_true {first many clock : Nat} {n : Int} {lent : Lent} {s s' : ScanS} (h : scanF first many n clock lent s = (s', true)) (ok : ScanOk first many lent n s) : ∃ v, s'.view = some v ∧ v ≠ [] := by
  obtain ⟨h1, h2, h3, h4⟩ := ok
  unfold scanF at h
  dsimp only at h
  split at h
  · cases h
  · rename_i hl
    rw [List.length_append, List.length_cons, List.length_nil] at hl
    split at h
    · cases h
    · rename_i ah e
      have hfm := (h4 ah e).2 (by omega)
      split at h
      · rename_i s2 e2
        cases h
        exact looked_true e2 (by simp) fun k mv z => (hfm k mv z).1
      · cases h
end Mir
namespace Sp
open PySem PySem.Spec PyProof.Rows L2 Mir
theorem w2_ixD {K : PySem.W.Frag} {w : World} {ps : List HP} {Φ : V → List HP → Prop} {a : Addr} {z : Str} {v : V} (h : KDct K w a z v) (k : Φ v ps) : W2 (rIxD K w) (.ref a) (.str z) ps Φ := fun H Q s q => ⟨a, z, v, rfl, rfl, h, q _ _ _ k s⟩
theorem We.or1 {t u : TE} {σ : L2.St} {ps : List HP} {Φ : V → List HP → Prop} (h : We t σ ps Φ) : We (fun σ H Q => t σ H Q ∨ u σ H Q) σ ps Φ := fun H Q s q => .inl (h H Q s q)
theorem We.or2 {t u : TE} {σ : L2.St} {ps : List HP} {Φ : V → List HP → Prop} (h : We u σ ps Φ) : We (fun σ H Q => t σ H Q ∨ u σ H Q) σ ps Φ := fun H Q s q => .inr (h H Q s q)
end Sp
set_option Elab.async false
set_option linter.all false
set_option maxRecDepth 100000
set_option maxHeartbeats 4000000
namespace Sp
open PySem PySem.Spec PyProof.Rows L2 Mir
section
variable {K : PySem.W.Frag} {I : HI K} {L L' : Pool} {R ps : List HP} {x q : Addr} {S : HallS} {many : Nat}
theorem rdf_obj {names : List Str} {J : CI K names} {a : Addr} {fs : List (Str × V)} {r : List Str} {f : Str} {v : V} (m : obj J a fs ∈ ps) (p : fs.map (·.1) ++ r = names) (h : (f, v) ∈ fs) : RdF K ps a f v := fun H s => s.rf m p h
theorem opn_hall : Opn (hallC I x L S :: R) fun z : HAd S.many => obj I.Hall x [("many", .int S.many), ("plans", .ref z.plans), ("boxes", .ref z.boxes), ("memories", .ref z.memories), ("underway", .ref z.underway), ("begins", .ref z.begins), ("own", .ref z.own), ("hands", .ref z.hands), ("lent", .ref z.lent), ("ended", .ref z.ended)] ::
    plansC L z.plans S.plans :: boxC I.Boxes z.boxes S.boxes S.log :: pt z.memories (.lst (z.ms.map V.ref)) :: eachR S.many (fun h => memC I.Memory (z.ms.getD h 0) (S.mems.getD h (.new S.many))) ::
    pt z.underway (.lst z.us) :: eachR S.many (fun h => underC I L (z.ms.getD h 0) S.many (z.us.getD h .non) (S.underway.getD h none)) ::
    pt z.begins (.lst (natsV S.begins)) :: pt z.own (.lst (natsV S.own)) :: pt z.hands (.lst (natsV S.hands)) :: pt z.lent (.dT (lentK S.lent)) :: endedC I L S.many z.ended S.ended :: R := fun H s => by
  unfold hallC at s
  obtain ⟨z, s⟩ := Sat.ex.mp s
  exact ⟨z, Sat.grp.mp s⟩
theorem ent_hall (z : HAd S.many) : Ent (obj I.Hall x [("many", .int S.many), ("plans", .ref z.plans), ("boxes", .ref z.boxes), ("memories", .ref z.memories), ("underway", .ref z.underway), ("begins", .ref z.begins), ("own", .ref z.own), ("hands", .ref z.hands), ("lent", .ref z.lent), ("ended", .ref z.ended)] ::
    plansC L z.plans S.plans :: boxC I.Boxes z.boxes S.boxes S.log :: pt z.memories (.lst (z.ms.map V.ref)) :: eachR S.many (fun h => memC I.Memory (z.ms.getD h 0) (S.mems.getD h (.new S.many))) ::
    pt z.underway (.lst z.us) :: eachR S.many (fun h => underC I L (z.ms.getD h 0) S.many (z.us.getD h .non) (S.underway.getD h none)) ::
    pt z.begins (.lst (natsV S.begins)) :: pt z.own (.lst (natsV S.own)) :: pt z.hands (.lst (natsV S.hands)) :: pt z.lent (.dT (lentK S.lent)) :: endedC I L S.many z.ended S.ended :: R) (hallC I x L S :: R) := fun H s => by
  unfold hallC
  exact Sat.ex.mpr ⟨z, Sat.grp.mpr s⟩
variable {mem wa dA : Addr} {v av : V} {w : WorkS}
theorem opn_underN : Opn (underC I L mem many v none :: R) fun _ : { _u : Unit // v = .non } => R := fun H s => by
  unfold underC at s
  obtain ⟨e, s⟩ := Sat.pur.mp s
  exact ⟨⟨(), e⟩, s⟩
theorem ent_underN : Ent R (underC I L mem many .non none :: R) := fun H s => by
  unfold underC
  exact Sat.pur.mpr ⟨rfl, s⟩
theorem opn_underS : Opn (underC I L mem many v (some w) :: R) fun z : { z : Addr × Addr × V // v = .ref z.1 ∧ (z.2.1, w.deed.vals) ∈ L } => workC I z.1.1 z.1.2.1 mem many z.1.2.2 w :: ansC z.1.2.2 w.ans :: R := fun H s => by
  unfold underC at s
  obtain ⟨z, s⟩ := Sat.ex.mp s
  obtain ⟨e, s⟩ := Sat.pur.mp (Sat.grp.mp s)
  exact ⟨⟨z, e⟩, s⟩
theorem ent_underS (h : (dA, w.deed.vals) ∈ L) : Ent (workC I wa dA mem many av w :: ansC av w.ans :: R) (underC I L mem many (.ref wa) (some w) :: R) := fun H s => by
  unfold underC
  exact Sat.ex.mpr ⟨(wa, dA, av), Sat.grp.mpr (Sat.pur.mpr ⟨⟨rfl, h⟩, s⟩)⟩
theorem under_mono (hL : ∀ x ∈ L, x ∈ L') {o : Option WorkS} : Ent [underC I L mem many v o] [underC I L' mem many v o] := fun H s => by
  unfold underC at s ⊢
  cases o with
  | none => exact s
  | some w =>
    obtain ⟨z, s⟩ := Sat.ex.mp s
    obtain ⟨⟨e, m⟩, s⟩ := Sat.pur.mp (Sat.grp.mp s)
    exact Sat.ex.mpr ⟨z, Sat.grp.mpr (Sat.pur.mpr ⟨⟨e, hL _ m⟩, s⟩)⟩
theorem done_mono (hL : ∀ x ∈ L, x ∈ L') {ea : Addr} {d : DoneS} : Ent [doneC I L many ea d] [doneC I L' many ea d] := fun H s => by
  unfold doneC at s ⊢
  obtain ⟨z, s⟩ := Sat.ex.mp s
  obtain ⟨⟨m, a⟩, s⟩ := Sat.pur.mp (Sat.grp.mp s)
  exact Sat.ex.mpr ⟨z, Sat.grp.mpr (Sat.pur.mpr ⟨⟨hL _ m, a.mono hL⟩, s⟩)⟩
theorem DeedsIn.mono {das : List Addr} {ds : List Deed} (h : DeedsIn L das ds) (hL : ∀ x ∈ L, x ∈ L') : DeedsIn L' das ds := ⟨h.1, fun i a d h1 h2 => hL _ (h.2 i a d h1 h2)⟩
theorem plans_mono (hL : ∀ x ∈ L, x ∈ L') {plans : List (List Deed)} : Ent (plansC L q plans :: R) (plansC L' q plans :: R) := fun H s => by
  unfold plansC at s ⊢
  obtain ⟨⟨z, h1, h2, h3⟩, s⟩ := Sat.ex.mp s
  exact Sat.ex.mpr ⟨⟨z, h1, h2, fun h hh => (h3 h hh).mono hL⟩, s⟩
theorem ended_mono (hL : ∀ x ∈ L, x ∈ L') {es : List DoneS} : Ent (endedC I L many q es :: R) (endedC I L' many q es :: R) := fun H s => by
  unfold endedC at s ⊢
  obtain ⟨as, s⟩ := Sat.ex.mp s
  have s := Sat.grp.mp s
  refine Sat.ex.mpr ⟨as, Sat.grp.mpr ?_⟩
  exact (Ent.cons (eachR_mono fun k _ => done_mono hL)) H s
theorem hall_mono (hL : ∀ x ∈ L, x ∈ L') : Ent (hallC I x L S :: R) (hallC I x L' S :: R) := fun H s => by
  obtain ⟨z, s⟩ := opn_hall H s
  refine ent_hall z H ?_
  refine (Ent.cons ((plans_mono hL).trans (Ent.cons (Ent.cons (Ent.cons (Ent.cons (Ent.cons ((eachR_mono fun k _ => under_mono hL).trans (Ent.cons (Ent.cons (Ent.cons (Ent.cons (Ent.cons (ended_mono hL)))))))))))))) H s
structure PlAd (L : Pool) (plans : List (List Deed)) where
  as : List Addr
  das : List (List Addr)
  la : as.length = plans.length
  ld : das.length = plans.length
  dd : ∀ h, h < plans.length → DeedsIn L (das.getD h []) (plans.getD h [])
theorem opn_plans {plans : List (List Deed)} : Opn (plansC L q plans :: R) fun z : PlAd L plans => pt q (.lst (z.as.map V.ref)) :: eachR plans.length (fun i => pt (z.as.getD i 0) (.lst ((z.das.getD i []).map V.ref))) :: R := fun H s => by
  unfold plansC at s
  obtain ⟨⟨z, h1, h2, h3⟩, s⟩ := Sat.ex.mp s
  exact ⟨⟨z.1, z.2, h1, h2, h3⟩, Sat.grp.mp s⟩
theorem ent_plans {plans : List (List Deed)} (z : PlAd L plans) : Ent (pt q (.lst (z.as.map V.ref)) :: eachR plans.length (fun i => pt (z.as.getD i 0) (.lst ((z.das.getD i []).map V.ref))) :: R) (plansC L q plans :: R) := fun H s => by
  unfold plansC
  exact Sat.ex.mpr ⟨⟨(z.as, z.das), z.la, z.ld, z.dd⟩, Sat.grp.mpr s⟩
theorem opn_ended {es : List DoneS} : Opn (endedC I L many q es :: R) fun z : { as : List Addr // as.length = es.length } => pt q (.lst (z.1.map V.ref)) :: eachR es.length (fun i => doneC I L many (z.1.getD i 0) (es.getD i default)) :: R := fun H s => by
  unfold endedC at s
  obtain ⟨z, s⟩ := Sat.ex.mp s
  exact ⟨z, Sat.grp.mp s⟩
theorem ent_ended {es : List DoneS} {as : List Addr} (e : as.length = es.length) : Ent (pt q (.lst (as.map V.ref)) :: eachR es.length (fun i => doneC I L many (as.getD i 0) (es.getD i default)) :: R) (endedC I L many q es :: R) := fun H s => by
  unfold endedC
  exact Sat.ex.mpr ⟨⟨as, e⟩, Sat.grp.mpr s⟩
theorem ent_ended_snoc {es : List DoneS} {as : List Addr} {d : DoneS} {ea : Addr} (e : as.length = es.length) : Ent (pt q (.lst (as.map V.ref ++ [.ref ea])) :: doneC I L many ea d :: eachR es.length (fun i => doneC I L many (as.getD i 0) (es.getD i default)) :: R) (endedC I L many q (es ++ [d]) :: R) := by
  have e1 : as.map V.ref ++ [V.ref ea] = (as ++ [ea]).map V.ref := by rw [List.map_append]; rfl
  rw [e1]
  refine Ent.trans (Ent.cons ?_) (ent_ended (as := as ++ [ea]) (by simp [e]))
  rw [List.length_append]
  have h0 : doneC I L many ea d = (fun i => doneC I L many ((as ++ [ea]).getD i 0) ((es ++ [d]).getD i default)) es.length := by
    show _ = doneC I L many ((as ++ [ea]).getD es.length 0) ((es ++ [d]).getD es.length default)
    rw [getD_snoc_eq rfl, getD_snoc_eq e.symm]
  rw [h0]
  refine eachR_snoc (g := fun i => doneC I L many ((as ++ [ea]).getD i 0) ((es ++ [d]).getD i default)) fun k hk => ?_
  show doneC I L many ((as ++ [ea]).getD k 0) ((es ++ [d]).getD k default) = _
  rw [getD_snoc_lt hk, getD_snoc_lt (by omega)]
theorem ent_done {d : DoneS} {ea : Addr} (h : (dA, d.work.deed.vals) ∈ L) (a : AnsR L av d.work.ans) : Ent (obj I.Done ea [("work", .ref wa), ("begin", .int d.b), ("end", .int d.e)] :: workC I wa dA mem many av d.work :: R) (doneC I L many ea d :: R) := fun H s => by
  unfold doneC
  exact Sat.ex.mpr ⟨(wa, dA, mem, av), Sat.grp.mpr (Sat.pur.mpr ⟨⟨h, a⟩, s⟩)⟩
theorem rdds_deeds (m : tups L ∈ ps) : ∀ {das : List Addr} {ds : List Deed}, DeedsIn L das ds → RdDs K ps (das.map V.ref) (ds.map Deed.data)
  | [], [], _ => .nil
  | [], _ :: _, h => by have := h.1; simp at this
  | _ :: _, [], h => by have := h.1; simp at this
  | a :: as, d :: ds, h => .cons (dp_deed m (h.2 0 a d rfl rfl)) (rdds_deeds m ⟨by have := h.1; simpa using this, fun i a r h1 h2 => h.2 (i + 1) a r (by simpa using h1) (by simpa using h2)⟩)
theorem deeds_canLay (ds : List Deed) : PyData.canLayAll0 (ds.map Deed.data) = true := by
  induction ds with
  | nil => rfl
  | cons r rs ih => simp [PyData.canLayAll0, Deed.canLay, ih]
theorem deeds_depth (ds : List Deed) : PyData.depthAll (ds.map Deed.data) ≤ 2 := by
  induction ds with
  | nil => simp [PyData.depthAll]
  | cons r rs ih => have := r.depth; simp only [List.map, PyData.depthAll]; omega
theorem deeds_shaped (ds : List Deed) : SeqAt.shaped (.list (ds.map Deed.data)) = true := by
  have h2 := deeds_depth ds
  unfold SeqAt.shaped
  refine Bool.and_eq_true_iff.mpr ⟨?_, decide_eq_true ?_⟩
  · simp [PyData.canLay0, deeds_canLay]
  · simp only [PyData.depth]
    omega
theorem rdd_deeds {a : Addr} {das : List Addr} {ds : List Deed} (m : tups L ∈ ps) (h : DeedsIn L das ds) (rd : RdL K ps a (das.map V.ref)) : RdD K ps (.ref a) (.list (ds.map Deed.data)) := rdd_list rd (rdds_deeds m h) (deeds_shaped ds)
theorem deeds_eqNil (ds : List Deed) : PyData.eqv (.list (ds.map Deed.data)) (.list []) = decide (ds = []) := by
  cases ds with
  | nil => simp [PyData.eqv, PyData.eqvAll]
  | cons d r => simp [PyData.eqv, PyData.eqvAll]
theorem w2_eqDeeds {Φ : V → List HP → Prop} {a b : Addr} {das : List Addr} {ds : List Deed} (m : tups L ∈ ps) (h : DeedsIn L das ds) (rd : RdL K ps a (das.map V.ref)) (g : RdL K ps b []) (k : Φ (.bl (decide (ds = []))) ps) : W2 (rEqD K) (.ref a) (.ref b) ps Φ :=
  w2_eqD (rdd_deeds m h rd) (rdd_nil g) (by rw [deeds_eqNil]; exact k)
end
end Sp
namespace Sp
open PySem PySem.Spec PyProof.Rows L2 Mir
section
variable {K : PySem.W.Frag} {ps R : List HP} {Φ : V → List HP → Prop} {a : Addr} {n i : Nat} {f g : Nat → HP}
theorem each_at (pk : Pick (eachR n f) ps R) (h : i < n) : Ent ps (f i :: eachR n (hole f i) :: R) := (Ent.perm pk.perm).trans (eachR_open h)
theorem w2_ixU {us : List V} {i : Int} {j : Nat} (ei : i = (j : Int)) (h : RdL K ps a us) (g : j < us.length) (k : Φ (us.getD j .non) ps) : W2 (rIxL K) (.ref a) (.int i) ps Φ := w2_ixL h (atI_of (j := j) ei (getD_lt g)) k
theorem w2_ixRf {as : List Addr} {i : Int} {j : Nat} (ei : i = (j : Int)) (h : RdL K ps a (as.map V.ref)) (g : j < as.length) (k : Φ (.ref (as.getD j 0)) ps) : W2 (rIxL K) (.ref a) (.int i) ps Φ := w2_ixL h (atI_of (j := j) ei (by rw [List.getElem?_map, getD_lt (d := 0) g]; rfl)) k
theorem getD_set_eq {α : Type} {xs : List α} {x d : α} {i : Nat} (h : i < xs.length) : (xs.set i x).getD i d = x := by
  rw [List.getD_eq_getElem?_getD, List.getElem?_set_self h]; rfl
theorem getD_set_ne {α : Type} {xs : List α} {x d : α} {i j : Nat} (h : i ≠ j) : (xs.set i x).getD j d = xs.getD j d := by
  rw [List.getD_eq_getElem?_getD, List.getD_eq_getElem?_getD, List.getElem?_set_ne h]
end
end Sp
set_option Elab.async false
set_option linter.all false
set_option maxRecDepth 100000
set_option maxHeartbeats 4000000
namespace MnM
open PySem PySem.Spec PyProof.Rows L2
noncomputable def ltP (a b : Int × Int) : Prop := a.1 < b.1 ∨ (a.1 = b.1 ∧ a.2 < b.2)
noncomputable instance (a b : Int × Int) : Decidable (ltP a b) := by unfold ltP; infer_instance
theorem ltP_trans {a b c : Int × Int} (h : ltP a b) (k : ¬ ltP c b) : ltP a c := by
  unfold ltP at *
  rcases Int.lt_trichotomy c.1 b.1 with z | z | z
  · exact absurd (Or.inl z) k
  · have l : b.2 ≤ c.2 := Int.not_lt.mp fun y => k (Or.inr ⟨z, y⟩)
    rcases h with h | ⟨e, h⟩
    · exact Or.inl (by rw [z]; exact h)
    · exact Or.inr ⟨by rw [z]; exact e, Int.lt_of_lt_of_le h l⟩
  · rcases h with h | ⟨e, h⟩
    · exact Or.inl (Int.lt_trans h z)
    · exact Or.inl (by rw [e]; exact z)
theorem lt_pair {A : Around} {s : Shared} {l b : Addr} {a1 a2 b1 b2 : Int} {t1 t2 u1 u2 : Tok} (hl : s.heap.IsTuple l #[.int a1 t1, .int a2 t2]) (hb : s.heap.IsTuple b #[.int b1 u1, .int b2 u2]) (hu : A.units < cLine) :
    Ob.RcOp .Lt A s (.ref l) (.ref b) (decide (ltP (a1, a2) (b1, b2))) := by
  have h := Ob.RcOp.tuples_lt (A := A) (s := s) (e := fun j => if j = 0 then decide (a1 = b1) else decide (a2 = b2)) (r := fun j => if j = 0 then decide (a1 < b1) else decide (a2 < b2)) hl hb hu (fun j h1 h2 => by
    have : j = 0 ∨ j = 1 := by simp at h1; omega
    rcases this with rfl | rfl
    · have := PySem.SeqAt.EqAt.int_int (A := A.in1) (s := s) a1 t1 b1 u1
      have e : (a1 == b1) = decide (a1 = b1) := by by_cases h : a1 = b1 <;> simp [h]
      rw [e] at this
      simpa using this
    · have := PySem.SeqAt.EqAt.int_int (A := A.in1) (s := s) a2 t2 b2 u2
      have e : (a2 == b2) = decide (a2 = b2) := by by_cases h : a2 = b2 <;> simp [h]
      rw [e] at this
      simpa using this) (fun j h1 h2 _ => by
    have : j = 0 ∨ j = 1 := by simp at h1; omega
    rcases this with rfl | rfl
    · have := Ob.RcOp.lt_int (A := A.in1) (s := s) a1 b1 t1 u1
      simpa using this
    · have := Ob.RcOp.lt_int (A := A.in1) (s := s) a2 b2 t2 u2
      simpa using this)
  have e : Ob.lexAt (fun j => if j = 0 then decide (a1 = b1) else decide (a2 = b2)) (fun j => if j = 0 then decide (a1 < b1) else decide (a2 < b2)) (decide ((#[Value.int a1 t1, .int a2 t2] : Array Value).size < (#[Value.int b1 u1, .int b2 u2] : Array Value).size)) 0 (min (#[Value.int a1 t1, .int a2 t2] : Array Value).size (#[Value.int b1 u1, .int b2 u2] : Array Value).size) = decide (ltP (a1, a2) (b1, b2)) := by
    show (if decide (a1 = b1) = true then (if decide (a2 = b2) = true then decide (2 < 2) else decide (a2 < b2)) else decide (a1 < b1)) = _
    unfold ltP
    by_cases h1 : a1 = b1
    · subst h1
      by_cases h2 : a2 = b2
      · subst h2; simp
      · simp [h2]
    · simp [h1]
  rw [e] at h
  exact h
structure KRun (X : Cx) (sp : L2.Sp) (E : XK) (l q g b : Addr) (ns : List Int) (kf : Int → Int × Int) (W : Hp → Prop) : Prop where
  lst : ∀ H, W H → SqL X.K H l (ns.map V.int)
  met : ∀ H, W H → H q = some (.met g b)
  run : ∀ n, n ∈ ns → ∀ H, W H → sp [.ref b, .int n] H (fun v H' => W H' ∧ ∃ p, v = .ref p ∧ H' p = some (.tup [.int (kf n).1, .int (kf n).2])) E
section
variable {X : Cx} {pins : List (Addr × Obj)} {σ : L2.St} {kk : Nat} {q g b l it S : Addr} {sp : L2.Sp} {E : XK} {ns : List Int} {kf : Int → Int × Int} {W : Hp → Prop} {A : Around} {R : Result → Shared → Prop}
theorem tup2 {s : Shared} {H : Hp} {p : Addr} {x y : Int} (I : Inv X pins σ H s) (h : H p = some (.tup [.int x, .int y])) : ∃ t u, s.heap.IsTuple p #[.int x t, .int y u] := by
  obtain ⟨its, r, ip, _⟩ := I.tuple (SqT.of h)
  cases r with
  | cons r1 r2 =>
    cases r2 with
    | cons r2 r3 =>
      cases r3
      obtain ⟨t, rfl⟩ := r1
      obtain ⟨u, rfl⟩ := r2
      exact ⟨t, u, ip⟩
theorem key_call (hr : Room kk A.in1) (hA : A.frames = some X.stack) (Fn : FnR X.prog X.w X.K X.mg X.base CX0 kk g sp) (K : KRun X sp E l q g b ns kf W) {n : Int} (hn : n ∈ ns) {u : Value} (ru : RelV (.int n) u) {s : Shared} {H : Hp} (I : Inv X pins σ H s) (w : W H)
    (ri : FbM.Rec X pins it) (rS : FbM.Rec X pins S) (ui : H it = none) (uS : H S = none) {Q : Value → Shared → Prop} {EE : Value → Shared → Prop}
    (h : ∀ s' H' p, Inv X pins σ H' s' → W H' → H' it = none → H' S = none → H' p = some (.tup [.int (kf n).1, .int (kf n).2]) → (∀ o, s.heap.get? it = some o → s'.heap.get? it = some o) → (∀ o, s.heap.get? S = some o → s'.heap.get? S = some o) →
      (∀ p xs, H p = some (.tup xs) → H' p = some (.tup xs)) → Q (.ref p) s') (hi : ∃ o, s.heap.get? it = some o) (hS : ∃ o, s.heap.get? S = some o) : wpAny (model X.prog X.w) A.in1 (call (.ref q) [u]) Q EE s := by
  have e0 := I.env0
  have e1 : Env0 X.prog X.w X.K X.mg X.base A.in1 X.stack s H := ⟨hA, e0.mod, e0.bs, e0.bsz, e0.funs, e0.frf, e0.hok, e0.bare⟩
  have hq : s.heap.get? q = some (PySem.W.methodObj (.ref g) (.ref b)) := I.hok q _ (K.met H w)
  refine wpAny_call (PySem.W.method_call hq (codeAny_mono (Fn A.in1 X.stack _ H [.ref b, u] [.ref b, .int n] _ E hr e1 (.cons rfl (.cons ru .nil)) (K.run n hn H w)) fun rr s2 hrr => ?_))
  cases rr with
  | error e => exact (show False from hrr).elim
  | ok fl =>
    cases fl with
    | next => exact False.elim hrr
    | brk => exact False.elim hrr
    | cont => exact False.elim hrr
    | ret v =>
      obtain ⟨v', H', os, bare, un, hok, rv', w', p, ev, hp⟩ := (show CE X.stack X.prog X.w H _ _ v s2 from hrr)
      subst ev
      obtain rfl : v = Value.ref p := rv'
      have I2 : Inv X pins σ H' s2 := I.call' os un hok bare (fun b y => absurd y List.not_mem_nil)
      obtain ⟨oi, hoi⟩ := hi
      obtain ⟨oS, hoS⟩ := hS
      exact h s2 H' p I2 w' (un.free _ _ hoi ui List.not_mem_nil) (un.free _ _ hoS uS List.not_mem_nil) hp (fun o e => un.keep _ _ e ui ri.fr List.not_mem_nil) (fun o e => un.keep _ _ e uS rS.fr List.not_mem_nil) un.tups
theorem mk_loop (hh : A.handled = none) (hu : A.in1.units < cLine) (hr : Room kk A.in1) (hA : A.frames = some X.stack) (Fn : FnR X.prog X.w X.K X.mg X.base CX0 kk g sp) (K : KRun X sp E l q g b ns kf W)
    (ri : FbM.Rec X pins it) (rS : FbM.Rec X pins S) (Si : S ≠ it) (li : l ≠ it)
    (hR : ∀ n u s' H', RelV (.int n) u → n ∈ ns → (∀ m ∈ ns, ¬ ltP (kf m) (kf n)) → W H' → Inv X pins σ H' s' → R (.ok (.ret u)) s') :
    ∀ (r j : Nat) (best : Int) (p : Addr) (s : Shared) (H : Hp) (c : Nat) (vb : Value), ns.length - (j + 1) = r → j + 1 ≤ ns.length → Inv X pins σ H s → W H → H it = none → H S = none → H p = some (.tup [.int (kf best).1, .int (kf best).2]) →
      s.heap.IsListIter it l (j + 1) → RelV (.int best) vb → s.heap.get? S = some (seqObj "list" #[vb, .ref p] c) → best ∈ ns → (∀ i m, i ≤ j → ns[i]? = some m → ¬ ltP (kf m) (kf best)) →
      codeAny (model X.prog X.w) A (.builtin "min.loop" ⟨[.ref it, .ref q, .ref S], []⟩) R s := by
  have hname : (toString "min" ++ toString ".loop" : String) = "min.loop" := by decide
  intro r
  induction r with
  | zero =>
    intro j best p s H c vb hr0 hj I w ui uS hp hit rb hS hbn hbest
    have hin : j + 1 = ns.length := by omega
    obtain ⟨its, rv, pl, _⟩ := I.list (K.lst H w)
    have hsz : its.toArray.size = j + 1 := by
      have e := rv.length
      rw [List.size_toArray, ← e, List.length_map, hin]
    have W0 := Walks.list (prog := X.prog) (w := X.w) (A := A.in1) hh it l li its.toArray
    refine codeAny_builtin PySem.F.entry_min_loop ?_
    rw [Around.under_plainId PySem.F.plain_min_loop _]
    show wpAny _ A.in1 (seqItems? (.ref S) >>= _) _ _ _
    refine wpAny_bind (wpAny_seqItems hS rfl ?_)
    show wpAny _ A.in1 (tryCatch (pyNext (.ref it)) _ >>= _) _ _ _
    refine wpAny_bind (wpAny_tryCatch (W0.done _ _ _ ⟨by rw [hsz]; exact hit, pl.isList⟩ fun h' tk' hk' => ?_))
    have I2 : Inv X pins σ H { s with heap := h', toks := tk' } := ri.turn (t' := tk') I ui fun c o hc e => hk' c o (by simpa using hc) e
    have hS' := hk' S _ (by simpa using Si) hS
    show wpAny _ A.in1 (updateSeq S (fun _ => #[]) >>= _) _ _ _
    refine wpAny_bind ?_
    refine wpAny_updateSeq hS' rfl (wpAny_bind (wpAny_letGo (wpAny_pure ?_)))
    have sb := Heap.SameBut.update h' S (Obj.mapSeq fun _ => (#[] : Array Value))
    refine hR best vb _ H rb hbn (fun m hm => ?_) w (rS.turn (t' := _) I2 uS fun c o hc e => sb.extBut c o hc e)
    obtain ⟨i, hi, e⟩ := List.getElem_of_mem hm
    exact hbest i m (by omega) (by rw [List.getElem?_eq_getElem hi, e])
  | succ r ih =>
    intro j best p s H c vb hr0 hj I w ui uS hp hit rb hS hbn hbest
    have hlt : j + 1 < ns.length := by omega
    obtain ⟨its, rv, pl, _⟩ := I.list (K.lst H w)
    have hsz : its.toArray.size = ns.length := by
      have e := rv.length
      rw [List.size_toArray, ← e, List.length_map]
    have W0 := Walks.list (prog := X.prog) (w := X.w) (A := A.in1) hh it l li its.toArray
    refine codeAny_builtin PySem.F.entry_min_loop ?_
    rw [Around.under_plainId PySem.F.plain_min_loop _]
    show wpAny _ A.in1 (seqItems? (.ref S) >>= _) _ _ _
    refine wpAny_bind (wpAny_seqItems hS rfl ?_)
    show wpAny _ A.in1 (tryCatch (pyNext (.ref it)) _ >>= _) _ _ _
    refine wpAny_bind (wpAny_tryCatch (W0.item (j + 1) _ _ _ (by rw [hsz]; exact hlt) ⟨hit, pl.isList⟩ fun v h' tk' hP hst' hk' => ?_))
    have hni : ns[j + 1]? = some ns[j + 1] := List.getElem?_eq_getElem hlt
    generalize ns[j + 1] = n at hni
    have hnm : n ∈ ns := List.mem_of_getElem? hni
    have rn : RelV (.int n) v := by
      have e1 : (ns.map V.int)[j + 1]? = some (.int n) := by rw [List.getElem?_map, hni]; rfl
      obtain ⟨u, hu2, rx⟩ := rv.get e1
      have : its.toArray[j + 1]? = some v := hP
      rw [List.getElem?_toArray] at this
      rw [hu2] at this
      cases this
      exact rx
    have I2 : Inv X pins σ H { s with heap := h', toks := tk' } := ri.turn (t' := tk') I ui fun c o hc e => hk' c o (by simpa using hc) e
    have hS' := hk' S _ (by simpa using Si) hS
    obtain ⟨oI, hoI, hoc, hod⟩ := id hst'.1
    show wpAny _ A.in1 (tryCatch (holding [v] (call (.ref q) [v])) _ >>= _) _ _ _
    refine wpAny_bind (wpAny_tryCatch (wpAny_holding (key_call hr hA Fn K hnm rn I2 w ri rS ui uS (fun s3 H3 p3 I3 w3 ui3 uS3 hp3 ki kS kt => ?_) ⟨_, hoI⟩ ⟨_, hS'⟩)))
    obtain ⟨t1, t2, ht⟩ := tup2 I3 hp3
    obtain ⟨u1, u2, ht2⟩ := tup2 I3 (kt p _ hp)
    have hS3 := kS _ hS'
    have hit3 : s3.heap.IsListIter it l (j + 1 + 1) := ⟨oI, ki _ hoI, hoc, hod⟩
    show wpAny _ A.in1 (tryCatch (holding [v, .ref p3] (richCompare .Lt (.ref p3) (.ref p) >>= _)) _ >>= _) _ _ _
    refine wpAny_bind (wpAny_tryCatch (wpAny_holding (wpAny_bind (lt_pair ht ht2 hu _ _ _ _ ?_))))
    refine wpAny_bind (wpAny_holding (wpAny_truthy_bool ?_))
    refine wpAny_bind (wpAny_letGo (wpAny_pure ?_))
    by_cases hb' : ltP (kf n) (kf best)
    · have hb2 : decide (ltP ((kf n).1, (kf n).2) ((kf best).1, (kf best).2)) = true := decide_eq_true hb'
      have sb := Heap.SameBut.update s3.heap S (Obj.mapSeq fun _ => #[v, .ref p3])
      obtain ⟨c2, hc2⟩ : ∃ c2, (s3.heap.update S (Obj.mapSeq fun _ => #[v, .ref p3])).get? S = some (seqObj "list" #[v, .ref p3] c2) := ⟨_, get?_update_seq hS3 fun _ => #[v, .ref p3]⟩
      simp only [hb2, if_true]
      refine wpAny_bind ?_
      refine wpAny_updateSeq hS3 rfl (wpAny_bind (wpAny_letGo ?_))
      rw [hname]
      refine wpAny_pure ⟨plainId_quiet PySem.F.plain_min_loop _, ih (j + 1) n p3 _ H3 c2 v (by omega) hlt (rS.turn (t' := _) I3 uS3 fun c o hc e => sb.extBut c o hc e) w3 ui3 uS3 hp3 ⟨oI, (sb.2 it (Ne.symm Si)).trans (ki _ hoI), hoc, hod⟩ rn hc2 hnm fun i m hi hm => ?_⟩
      by_cases e : i = j + 1
      · subst e
        rw [hni] at hm
        cases hm
        unfold ltP; omega
      · exact fun z => hbest i m (by omega) hm (ltP_trans z (by unfold ltP at *; omega))
    · have hb2 : decide (ltP ((kf n).1, (kf n).2) ((kf best).1, (kf best).2)) = false := decide_eq_false hb'
      simp only [hb2, Bool.false_eq_true, if_false]
      refine wpAny_bind (wpAny_letGo ?_)
      rw [hname]
      refine wpAny_pure ⟨plainId_quiet PySem.F.plain_min_loop _, ih (j + 1) best p _ H3 c vb (by omega) hlt (I3.tok _) w3 ui3 uS3 (kt p _ hp) hit3 rb hS3 hbn fun i m hi hm => ?_⟩
      by_cases e : i = j + 1
      · subst e
        rw [hni] at hm
        cases hm
        exact hb'
      · exact hbest i m (by omega) hm
theorem mk_first (hh : A.handled = none) (hu : A.in1.units < cLine) (hr : Room kk A.in1) (hA : A.frames = some X.stack) (Fn : FnR X.prog X.w X.K X.mg X.base CX0 kk g sp) (K : KRun X sp E l q g b ns kf W)
    (ri : FbM.Rec X pins it) (rS : FbM.Rec X pins S) (Si : S ≠ it) (li : l ≠ it)
    (hR : ∀ n u s' H', RelV (.int n) u → n ∈ ns → (∀ m ∈ ns, ¬ ltP (kf m) (kf n)) → W H' → Inv X pins σ H' s' → R (.ok (.ret u)) s')
    {s : Shared} {H : Hp} {c : Nat} (hne : 0 < ns.length) (I : Inv X pins σ H s) (w : W H) (ui : H it = none) (uS : H S = none) (hit : s.heap.IsListIter it l 0) (hS : s.heap.get? S = some (seqObj "list" #[] c)) :
    codeAny (model X.prog X.w) A (.builtin "min.loop" ⟨[.ref it, .ref q, .ref S], []⟩) R s := by
  have hname : (toString "min" ++ toString ".loop" : String) = "min.loop" := by decide
  obtain ⟨its, rv, pl, _⟩ := I.list (K.lst H w)
  have hsz : its.toArray.size = ns.length := by
    have e := rv.length
    rw [List.size_toArray, ← e, List.length_map]
  have W0 := Walks.list (prog := X.prog) (w := X.w) (A := A.in1) hh it l li its.toArray
  refine codeAny_builtin PySem.F.entry_min_loop ?_
  rw [Around.under_plainId PySem.F.plain_min_loop _]
  show wpAny _ A.in1 (seqItems? (.ref S) >>= _) _ _ _
  refine wpAny_bind (wpAny_seqItems hS rfl ?_)
  show wpAny _ A.in1 (tryCatch (pyNext (.ref it)) _ >>= _) _ _ _
  refine wpAny_bind (wpAny_tryCatch (W0.item 0 _ _ _ (by rw [hsz]; exact hne) ⟨hit, pl.isList⟩ fun v h' tk' hP hst' hk' => ?_))
  have hni : ns[0]? = some ns[0] := List.getElem?_eq_getElem hne
  generalize ns[0] = n at hni
  have hnm : n ∈ ns := List.mem_of_getElem? hni
  have rn : RelV (.int n) v := by
    have e1 : (ns.map V.int)[0]? = some (.int n) := by rw [List.getElem?_map, hni]; rfl
    obtain ⟨u, hu2, rx⟩ := rv.get e1
    have : its.toArray[0]? = some v := hP
    rw [List.getElem?_toArray] at this
    rw [hu2] at this
    cases this
    exact rx
  have I2 : Inv X pins σ H { s with heap := h', toks := tk' } := ri.turn (t' := tk') I ui fun c o hc e => hk' c o (by simpa using hc) e
  have hS' := hk' S _ (by simpa using Si) hS
  obtain ⟨oI, hoI, hoc, hod⟩ := id hst'.1
  show wpAny _ A.in1 (tryCatch (holding [v] (call (.ref q) [v])) _ >>= _) _ _ _
  refine wpAny_bind (wpAny_tryCatch (wpAny_holding (key_call hr hA Fn K hnm rn I2 w ri rS ui uS (fun s3 H3 p3 I3 w3 ui3 uS3 hp3 ki kS kt => ?_) ⟨_, hoI⟩ ⟨_, hS'⟩)))
  have hS3 := kS _ hS'
  show wpAny _ A.in1 (updateSeq S (fun _ => #[v, .ref p3]) >>= _) _ _ _
  have sb := Heap.SameBut.update s3.heap S (Obj.mapSeq fun _ => #[v, .ref p3])
  obtain ⟨c2, hc2⟩ : ∃ c2, (s3.heap.update S (Obj.mapSeq fun _ => #[v, .ref p3])).get? S = some (seqObj "list" #[v, .ref p3] c2) := ⟨_, get?_update_seq hS3 fun _ => #[v, .ref p3]⟩
  refine wpAny_bind ?_
  refine wpAny_updateSeq hS3 rfl ?_
  rw [hname]
  refine wpAny_pure ⟨plainId_quiet PySem.F.plain_min_loop _, mk_loop hh hu hr hA Fn K ri rS Si li hR _ 0 n p3 _ H3 c2 v rfl hne (rS.turn (t' := _) I3 uS3 fun c o hc e => sb.extBut c o hc e) w3 ui3 uS3 hp3 ⟨oI, (sb.2 it (Ne.symm Si)).trans (ki _ hoI), hoc, hod⟩ rn hc2 hnm fun i m hi hm => ?_⟩
  have e : i = 0 := by omega
  subst e
  rw [hni] at hm
  cases hm
  unfold ltP; omega
theorem call_min_meth {Q : Value → Shared → Prop} {EE : Value → Shared → Prop} {s : Shared} {H : Hp} (hh : X.A.handled = none) (hu : X.A.in1.units < cLine) (hr : Room kk X.A.in1) (Fn : FnR X.prog X.w X.K X.mg X.base CX0 kk g sp) (K : KRun X sp E l q g b ns kf W) (hne : 0 < ns.length) (I : Inv X pins σ H s) (w : W H)
    (hQ : ∀ n u s' H', RelV (.int n) u → n ∈ ns → (∀ m ∈ ns, ¬ ltP (kf m) (kf n)) → W H' → Inv X pins σ H' s' → Q u s') :
    wpAny (model X.prog X.w) X.A (call (.builtin "min") [.ref l] [(Str.ofString "key", .ref q)]) Q EE s := by
  have hname : (toString "min" ++ toString ".loop" : String) = "min.loop" := by decide
  obtain ⟨its, rv, pl, _⟩ := I.list (K.lst H w)
  have hls := pl.isList
  obtain ⟨ol, hol, _⟩ := id hls
  have hll : l < s.heap.objs.size := Heap.lt_size hol
  refine kmk_tree PySem.F.kind_min PySem.F.plain_min PySem.F.entry_min (kmk_min_key _ _) ?_
  show wpAny _ X.A.in1 (Builtin.Builtins.bindParams "min" ["key", "default"] 0 ⟨[], [(Str.ofString "key", .ref q)]⟩ >>= _) _ _ s
  refine wpAny_bind (wpAny_of_eq (show Builtin.Builtins.bindParams "min" ["key", "default"] 0 ⟨[], [(Str.ofString "key", .ref q)]⟩ = pure [some (.ref q), none] from rfl) ?_)
  refine wpAny_bind (wpAny_pure ?_)
  refine wpAny_bind (wpAny_pyIter_list hls ?_)
  refine wpAny_bind (wpAny_newList ?_ (Nat.zero_le _))
  rw [hname]
  have hS : (s.heap.push { cls := .type "list_iterator", data := .fields #[.ref l, .int 0 0] }).objs.size = s.heap.objs.size + 1 := size_push' ..
  have k0 : ∀ b o, s.heap.get? b = some o → ((s.heap.push { cls := .type "list_iterator", data := .fields #[.ref l, .int 0 0] }).push (seqObj "list" #[] 0)).get? b = some o := fun b o e => Heap.get?_push_of_some _ (Heap.get?_push_of_some _ e)
  have gI : ((s.heap.push { cls := .type "list_iterator", data := .fields #[.ref l, .int 0 0] }).push (seqObj "list" #[] 0)).get? s.heap.objs.size = some { cls := .type "list_iterator", data := .fields #[.ref l, .int 0 0] } :=
    Heap.get?_push_of_some _ (Heap.get?_push_size _ rfl)
  have gS : ((s.heap.push { cls := .type "list_iterator", data := .fields #[.ref l, .int 0 0] }).push (seqObj "list" #[] 0)).get? (s.heap.push { cls := .type "list_iterator", data := .fields #[.ref l, .int 0 0] }).objs.size = some (seqObj "list" #[] 0) := Heap.get?_push_size _ rfl
  refine wpAny_pure ⟨plainId_quiet PySem.F.plain_min_loop _, ?_⟩
  exact mk_first hh hu hr (I.ok.frames) Fn K (FbM.rec_new I (Nat.le_refl _)) (FbM.rec_new I (by rw [hS]; exact Nat.le_succ _)) (by rw [hS]; exact Nat.ne_of_gt (Nat.lt_succ_self _)) (Nat.ne_of_lt hll)
    (fun n u s' H' a b c d e => hQ n u s' H' a b c d e) hne (I.kept (t' := s.toks) k0) w (I.hok.fresh (Nat.le_refl _)) (I.hok.fresh (by rw [hS]; exact Nat.le_succ _)) ⟨_, gI, rfl, rfl⟩ gS
end
noncomputable def tBound (C : Addr) (m : Str) (g : Addr) (to : TE) : TE := fun σ H Q => to σ H fun x H1 => ∃ a dx fs, x = .ref a ∧ H1 a = some (.ins C dx fs) ∧ fs.lookup m = none ∧ ∀ p, H1 p = none → Q (.ref p) (upd H1 p (.met g a))
theorem pe_bound {X : Cx} {o : Expr} {to : TE} {C g : Addr} {m : Str} {pos : Pos} (ho : PE X o to) (c : Cls X.K C) (k : BMeth X.K C m g) (hb : attributeBase o m X.env (eval o X.env) = eval o X.env := by rfl) : PE X (.Attribute o m pos) (tBound C m g to) := by
  refine ⟨fun pins s σ H Q I h => ?_⟩
  refine attr_of hb (thn (ho.run pins s σ H _ I h) fun u s1 hz => ?_)
  obtain ⟨x, H1, I1, rx, a, dx, fs, ex, ea, l, q⟩ := hz
  subst ex
  obtain rfl : u = Value.ref a := rx
  exact getbound_ok I1 ea c k l fun p s2 hp I2 => ⟨.ref p, _, I2, rfl, q p hp⟩
structure KRun0 (K : PySem.W.Frag) (sp : L2.Sp) (l q g b : Addr) (ns : List Int) (kf : Int → Int × Int) (W : Hp → Prop) : Prop where
  lst : ∀ H, W H → SqL K H l (ns.map V.int)
  met : ∀ H, W H → H q = some (.met g b)
  run : ∀ n, n ∈ ns → ∀ H, W H → sp [.ref b, .int n] H (fun v H' => W H' ∧ ∃ p, v = .ref p ∧ H' p = some (.tup [.int (kf n).1, .int (kf n).2])) L2.E0
noncomputable def rMinM (K : PySem.W.Frag) (sp : L2.Sp) (g : Addr) : List V → List V → Hp → VK → Prop := fun vs zs H Q => ∃ (l q b : Addr) (ns : List Int) (kf : Int → Int × Int) (W : Hp → Prop), vs = [.ref l] ∧ zs = [.ref q] ∧ KRun0 K sp l q g b ns kf W ∧ 0 < ns.length ∧ W H ∧
  ∀ n H', n ∈ ns → (∀ m ∈ ns, ¬ ltP (kf m) (kf n)) → W H' → Q (.int n) H'
theorem cr_minM {X : Cx} {kk : Nat} {g : Addr} {sp : L2.Sp} {fd : FuncData} {ps : List Str} (hr : Room (kk + 1) X.A) (Fn : FnOk X.prog X.w X.K X.mg X.base CX0 kk g fd ps sp) (hb : Binds X.K fd ps []) : CallRK X (.builtin "min") [Str.ofString "key"] (rMinM X.K sp g) := by
  intro pins s σ H xs zs us ws Q I r1 r2 h
  obtain ⟨l, q, b, ns, kf, W, rfl, rfl, K, hne, w, hQ⟩ := h
  rw [Vals.ref1 r1, Vals.ref1 r2]
  have Fr : FnR X.prog X.w X.K X.mg X.base CX0 kk g sp := by
    have z := Fn.raw hb .nil
    exact z.imp fun vs H Q E h => by rw [List.append_nil]; exact h
  exact call_min_meth (E := L2.E0) hr.hd hr.in1.units0 hr.in1 Fr ⟨K.lst, K.met, K.run⟩ hne I w fun n u s' H' a b c d e => ⟨.int n, H', e, a, hQ n H' b c d⟩
end MnM
namespace Sp
open PySem PySem.Spec PyProof.Rows L2
section
variable {K : PySem.W.Frag} {ta tb : TE} {t tk : TA} {σ : L2.St} {ps R : List HP} {Φ : V → List HP → Prop} {x : V} {a l q g b : Addr} {C : Addr} {m : Str} {ns : List Int}
theorem we_bound {g : Addr} (h : We ta σ ps fun x ps1 => MethG C m x ps1 fun ps1 => ∀ a q, x = .ref a → Φ (.ref q) (pt q (.met g a) :: ps1)) : We (MnM.tBound C m g ta) σ ps Φ := fun H Q s q =>
  h H _ s fun x ps1 H1 gm s1 => by
    obtain ⟨a, dx, fs, e1, e2, e3, k⟩ := gm.at' s1
    exact ⟨a, dx, fs, e1, e2, e3, fun p hp => q _ _ _ (k a p e1) (s1.new hp)⟩
noncomputable def Wck (r : List V → List V → Hp → VK → Prop) (vs zs : List V) (ps : List HP) (Φ : V → List HP → Prop) : Prop := ∀ (H : Hp) (Q : VK), Sat H ps → (∀ v ps' H', Φ v ps' → Sat H' ps' → Q v H') → r vs zs H Q
theorem we_CKw {r : List V → List V → Hp → VK → Prop} (h : Wa t σ ps fun vs ps1 => Wa tk σ ps1 fun zs ps2 => Wck r vs zs ps2 Φ) : We (tCKw r t tk) σ ps Φ := fun H Q s q =>
  h H _ s fun vs ps1 H1 h1 s1 => h1 H1 _ s1 fun zs ps2 H2 h2 s2 => h2 H2 Q s2 q
theorem wck_min {S : SP} {kf : Int → Int × Int} (pk : Pick (pt q (.met g b)) ps R) (rd : RdL K R l (ns.map V.int)) (hne : 0 < ns.length) (hS : ∀ n, n ∈ ns → S [.ref b, .int n] ps fun v ps' => ∃ p, v = .ref p ∧ ps' = pt p (.tup [.int (kf n).1, .int (kf n).2]) :: ps)
    (k : ∀ n, n ∈ ns → (∀ m ∈ ns, ¬ MnM.ltP (kf m) (kf n)) → Φ (.int n) ps) : Wck (MnM.rMinM K (spS S) g) [.ref l] [.ref q] ps Φ := fun H Q s qq => by
  refine ⟨l, q, b, ns, kf, fun H => Sat H ps, rfl, rfl, ⟨fun H s => (RdL.ent (Ent.perm pk.perm) rd.cons).at' s, fun H s => s.get pk.mem, fun n hn H s => ?_⟩, hne, s, fun n H' h1 h2 s' => qq _ _ _ (k n h1 h2) s'⟩
  refine ⟨ps, _, s, hS n hn, fun v ps' H' ⟨p, e, e2⟩ s' => ?_⟩
  subst e2
  exact ⟨s'.drop, p, e, s'.get (List.mem_cons_self ..)⟩
end
end Sp
set_option Elab.async false
set_option linter.all false
set_option maxRecDepth 100000
set_option maxHeartbeats 4000000
namespace My
open PySem PySem.Spec PyProof.Rows L2 Sp
noncomputable def topS (i : Nat) : Stmt := PySem.Challenge.pw_stillhands_k19_counts_lie_between.main.body.getD i (.Pass ⟨0, 0, 0, 0⟩)
noncomputable abbrev s_Boxes_init : Stmt := inClass (topS 8) 0
noncomputable abbrev n_Boxes_init : List Str := ["self", "many"]
theorem sc_Boxes_init : FnScope n_Boxes_init ["self", "many"] (defScope s_Boxes_init) := ⟨rfl, rfl, rfl, by decide +kernel, rfl, by decide +kernel, by decide +kernel⟩
noncomputable abbrev s_Boxes_need : Stmt := inClass (topS 8) 1
noncomputable abbrev n_Boxes_need : List Str := ["self", "place"]
theorem sc_Boxes_need : FnScope n_Boxes_need ["self", "place"] (defScope s_Boxes_need) := ⟨rfl, rfl, rfl, by decide +kernel, rfl, by decide +kernel, by decide +kernel⟩
noncomputable abbrev s_Boxes_take : Stmt := inClass (topS 8) 2
noncomputable abbrev n_Boxes_take : List Str := ["self", "place"]
theorem sc_Boxes_take : FnScope n_Boxes_take ["self", "place"] (defScope s_Boxes_take) := ⟨rfl, rfl, rfl, by decide +kernel, rfl, by decide +kernel, by decide +kernel⟩
noncomputable abbrev s_Boxes_put : Stmt := inClass (topS 8) 3
noncomputable abbrev n_Boxes_put : List Str := ["self", "place", "number"]
theorem sc_Boxes_put : FnScope n_Boxes_put ["self", "place", "number"] (defScope s_Boxes_put) := ⟨rfl, rfl, rfl, by decide +kernel, rfl, by decide +kernel, by decide +kernel⟩
noncomputable abbrev s_need_deed : Stmt := topS 13
noncomputable abbrev n_need_deed : List Str := ["deed", "hand"]
theorem sc_need_deed : FnScope n_need_deed ["deed", "hand"] (defScope s_need_deed) := ⟨rfl, rfl, rfl, by decide +kernel, rfl, by decide +kernel, by decide +kernel⟩
noncomputable abbrev s_packed : Stmt := topS 16
noncomputable abbrev n_packed : List Str := ["row", "found", "number"]
theorem sc_packed : FnScope n_packed ["row"] (defScope s_packed) := ⟨rfl, rfl, rfl, by decide +kernel, rfl, by decide +kernel, by decide +kernel⟩
noncomputable abbrev s_parted : Stmt := topS 17
noncomputable abbrev n_parted : List Str := ["number", "found"]
theorem sc_parted : FnScope n_parted ["number"] (defScope s_parted) := ⟨rfl, rfl, rfl, by decide +kernel, rfl, by decide +kernel, by decide +kernel⟩
noncomputable abbrev s_cell_of : Stmt := topS 19
noncomputable abbrev n_cell_of : List Str := ["number"]
theorem sc_cell_of : FnScope n_cell_of ["number"] (defScope s_cell_of) := ⟨rfl, rfl, rfl, by decide +kernel, rfl, by decide +kernel, by decide +kernel⟩
noncomputable abbrev s_Scan_init : Stmt := inClass (topS 20) 0
noncomputable abbrev n_Scan_init : List Str := ["self", "first", "many"]
theorem sc_Scan_init : FnScope n_Scan_init ["self", "first", "many"] (defScope s_Scan_init) := ⟨rfl, rfl, rfl, by decide +kernel, rfl, by decide +kernel, by decide +kernel⟩
noncomputable abbrev s_Scan_step : Stmt := inClass (topS 20) 1
noncomputable abbrev n_Scan_step : List Str := ["self", "boxes", "clock", "lent"]
theorem sc_Scan_step : FnScope n_Scan_step ["self", "boxes", "clock", "lent"] (defScope s_Scan_step) := ⟨rfl, rfl, rfl, by decide +kernel, rfl, by decide +kernel, by decide +kernel⟩
noncomputable abbrev s_Scan_looked : Stmt := inClass (topS 20) 2
noncomputable abbrev n_Scan_looked : List Str := ["self", "lent", "changed", "k", "told", "number"]
theorem sc_Scan_looked : FnScope n_Scan_looked ["self", "lent"] (defScope s_Scan_looked) := ⟨rfl, rfl, rfl, by decide +kernel, rfl, by decide +kernel, by decide +kernel⟩
noncomputable abbrev s_Memory_init : Stmt := inClass (topS 22) 0
noncomputable abbrev n_Memory_init : List Str := ["self", "many"]
theorem sc_Memory_init : FnScope n_Memory_init ["self", "many"] (defScope s_Memory_init) := ⟨rfl, rfl, rfl, by decide +kernel, rfl, by decide +kernel, by decide +kernel⟩
noncomputable abbrev s_Work_init : Stmt := inClass (topS 23) 0
noncomputable abbrev n_Work_init : List Str := ["self", "deed", "hand", "memory", "first", "many"]
theorem sc_Work_init : FnScope n_Work_init ["self", "deed", "hand", "memory", "first", "many"] (defScope s_Work_init) := ⟨rfl, rfl, rfl, by decide +kernel, rfl, by decide +kernel, by decide +kernel⟩
noncomputable abbrev s_Work_step : Stmt := inClass (topS 23) 1
noncomputable abbrev s_One_step : Stmt := inClass (topS 24) 0
noncomputable abbrev n_One_step : List Str := ["self", "boxes", "clock", "lent"]
theorem sc_One_step : FnScope n_One_step ["self", "boxes", "clock", "lent"] (defScope s_One_step) := ⟨rfl, rfl, rfl, by decide +kernel, rfl, by decide +kernel, by decide +kernel⟩
noncomputable abbrev s_Count_init : Stmt := inClass (topS 25) 0
noncomputable abbrev n_Count_init : List Str := ["self", "deed", "hand", "memory", "first", "many"]
theorem sc_Count_init : FnScope n_Count_init ["self", "deed", "hand", "memory", "first", "many"] (defScope s_Count_init) := ⟨rfl, rfl, rfl, by decide +kernel, rfl, by decide +kernel, by decide +kernel⟩
noncomputable abbrev s_Count_step : Stmt := inClass (topS 25) 1
noncomputable abbrev n_Count_step : List Str := ["self", "boxes", "clock", "lent"]
theorem sc_Count_step : FnScope n_Count_step ["self", "boxes", "clock", "lent"] (defScope s_Count_step) := ⟨rfl, rfl, rfl, by decide +kernel, rfl, by decide +kernel, by decide +kernel⟩
noncomputable abbrev s_Look_init : Stmt := inClass (topS 26) 0
noncomputable abbrev n_Look_init : List Str := ["self", "deed", "hand", "memory", "first", "many"]
theorem sc_Look_init : FnScope n_Look_init ["self", "deed", "hand", "memory", "first", "many"] (defScope s_Look_init) := ⟨rfl, rfl, rfl, by decide +kernel, rfl, by decide +kernel, by decide +kernel⟩
noncomputable abbrev s_Look_step : Stmt := inClass (topS 26) 1
noncomputable abbrev n_Look_step : List Str := ["self", "boxes", "clock", "lent"]
theorem sc_Look_step : FnScope n_Look_step ["self", "boxes", "clock", "lent"] (defScope s_Look_step) := ⟨rfl, rfl, rfl, by decide +kernel, rfl, by decide +kernel, by decide +kernel⟩
noncomputable abbrev s_Change_init : Stmt := inClass (topS 27) 0
noncomputable abbrev n_Change_init : List Str := ["self", "deed", "hand", "memory", "first", "many"]
theorem sc_Change_init : FnScope n_Change_init ["self", "deed", "hand", "memory", "first", "many"] (defScope s_Change_init) := ⟨rfl, rfl, rfl, by decide +kernel, rfl, by decide +kernel, by decide +kernel⟩
noncomputable abbrev s_Change_step : Stmt := inClass (topS 27) 1
noncomputable abbrev n_Change_step : List Str := ["self", "boxes", "clock", "lent", "word", "cell", "place"]
theorem sc_Change_step : FnScope n_Change_step ["self", "boxes", "clock", "lent"] (defScope s_Change_step) := ⟨rfl, rfl, rfl, by decide +kernel, rfl, by decide +kernel, by decide +kernel⟩
noncomputable abbrev s_Give_init : Stmt := inClass (topS 28) 0
noncomputable abbrev n_Give_init : List Str := ["self", "deed", "hand", "memory", "first", "many"]
theorem sc_Give_init : FnScope n_Give_init ["self", "deed", "hand", "memory", "first", "many"] (defScope s_Give_init) := ⟨rfl, rfl, rfl, by decide +kernel, rfl, by decide +kernel, by decide +kernel⟩
noncomputable abbrev s_Give_step : Stmt := inClass (topS 28) 1
noncomputable abbrev n_Give_step : List Str := ["self", "boxes", "clock", "lent", "row"]
theorem sc_Give_step : FnScope n_Give_step ["self", "boxes", "clock", "lent"] (defScope s_Give_step) := ⟨rfl, rfl, rfl, by decide +kernel, rfl, by decide +kernel, by decide +kernel⟩
noncomputable abbrev s_Take_init : Stmt := inClass (topS 29) 0
noncomputable abbrev n_Take_init : List Str := ["self", "deed", "hand", "memory", "first", "many"]
theorem sc_Take_init : FnScope n_Take_init ["self", "deed", "hand", "memory", "first", "many"] (defScope s_Take_init) := ⟨rfl, rfl, rfl, by decide +kernel, rfl, by decide +kernel, by decide +kernel⟩
noncomputable abbrev s_Take_step : Stmt := inClass (topS 29) 1
noncomputable abbrev n_Take_step : List Str := ["self", "boxes", "clock", "lent", "left", "k"]
theorem sc_Take_step : FnScope n_Take_step ["self", "boxes", "clock", "lent"] (defScope s_Take_step) := ⟨rfl, rfl, rfl, by decide +kernel, rfl, by decide +kernel, by decide +kernel⟩
noncomputable abbrev s_Take_rank : Stmt := inClass (topS 29) 2
noncomputable abbrev n_Take_rank : List Str := ["self", "k"]
theorem sc_Take_rank : FnScope n_Take_rank ["self", "k"] (defScope s_Take_rank) := ⟨rfl, rfl, rfl, by decide +kernel, rfl, by decide +kernel, by decide +kernel⟩
noncomputable abbrev s_work_of : Stmt := topS 31
noncomputable abbrev n_work_of : List Str := ["deed", "hand", "memory", "many", "first"]
theorem sc_work_of : FnScope n_work_of ["deed", "hand", "memory", "many"] (defScope s_work_of) := ⟨rfl, rfl, rfl, by decide +kernel, rfl, by decide +kernel, by decide +kernel⟩
noncomputable abbrev s_Done_init : Stmt := inClass (topS 36) 0
noncomputable abbrev n_Done_init : List Str := ["self", "work", "begin", "end"]
theorem sc_Done_init : FnScope n_Done_init ["self", "work", "begin", "end"] (defScope s_Done_init) := ⟨rfl, rfl, rfl, by decide +kernel, rfl, by decide +kernel, by decide +kernel⟩
noncomputable abbrev s_Hall_init : Stmt := inClass (topS 37) 0
noncomputable abbrev n_Hall_init : List Str := ["self", "plans", "hand", "plan", "deed"]
theorem sc_Hall_init : FnScope n_Hall_init ["self", "plans"] (defScope s_Hall_init) := ⟨rfl, rfl, rfl, by decide +kernel, rfl, by decide +kernel, by decide +kernel⟩
noncomputable abbrev s_Hall_need_hand : Stmt := inClass (topS 37) 1
noncomputable abbrev n_Hall_need_hand : List Str := ["self", "hand"]
theorem sc_Hall_need_hand : FnScope n_Hall_need_hand ["self", "hand"] (defScope s_Hall_need_hand) := ⟨rfl, rfl, rfl, by decide +kernel, rfl, by decide +kernel, by decide +kernel⟩
noncomputable abbrev s_Hall_step : Stmt := inClass (topS 37) 2
noncomputable abbrev n_Hall_step : List Str := ["self", "hand", "clock", "work", "deed"]
theorem sc_Hall_step : FnScope n_Hall_step ["self", "hand"] (defScope s_Hall_step) := ⟨rfl, rfl, rfl, by decide +kernel, rfl, by decide +kernel, by decide +kernel⟩
noncomputable abbrev s_Hall_weave : Stmt := inClass (topS 37) 3
noncomputable abbrev n_Hall_weave : List Str := ["self", "row", "hand"]
theorem sc_Hall_weave : FnScope n_Hall_weave ["self", "row"] (defScope s_Hall_weave) := ⟨rfl, rfl, rfl, by decide +kernel, rfl, by decide +kernel, by decide +kernel⟩
noncomputable abbrev s_Hall_records : Stmt := inClass (topS 37) 5
noncomputable abbrev n_Hall_records : List Str := ["self", "found", "one"]
theorem sc_Hall_records : FnScope n_Hall_records ["self"] (defScope s_Hall_records) := ⟨rfl, rfl, rfl, by decide +kernel, rfl, by decide +kernel, by decide +kernel⟩
noncomputable abbrev s__law_cell : Stmt := topS 39
noncomputable abbrev n__law_cell : List Str := ["_law_script", "_law_k"]
theorem sc__law_cell : FnScope n__law_cell ["_law_script", "_law_k"] (defScope s__law_cell) := ⟨rfl, rfl, rfl, by decide +kernel, rfl, by decide +kernel, by decide +kernel⟩
noncomputable abbrev s__law_dice : Stmt := topS 40
noncomputable abbrev n__law_dice : List Str := ["_law_script", "_law_k", "_law_cell_here"]
theorem sc__law_dice : FnScope n__law_dice ["_law_script", "_law_k"] (defScope s__law_dice) := ⟨rfl, rfl, rfl, by decide +kernel, rfl, by decide +kernel, by decide +kernel⟩
noncomputable abbrev s__law_off : Stmt := topS 41
noncomputable abbrev n__law_off : List Str := ["_law_d", "_law_most", "_law_more", "_law_found"]
theorem sc__law_off : FnScope n__law_off ["_law_d", "_law_most"] (defScope s__law_off) := ⟨rfl, rfl, rfl, by decide +kernel, rfl, by decide +kernel, by decide +kernel⟩
noncomputable abbrev s__law_deed : Stmt := topS 42
noncomputable abbrev n__law_deed : List Str := ["_law_d", "_law_word"]
theorem sc__law_deed : FnScope n__law_deed ["_law_d", "_law_word"] (defScope s__law_deed) := ⟨rfl, rfl, rfl, by decide +kernel, rfl, by decide +kernel, by decide +kernel⟩
noncomputable abbrev s__law_plans : Stmt := topS 43
noncomputable abbrev n__law_plans : List Str := ["_law_d", "_law_many", "_law_words", "_law_most", "_law_plans_here", "_law_hand", "_law_plan", "_law_k", "_law_word"]
theorem sc__law_plans : FnScope n__law_plans ["_law_d", "_law_many", "_law_words", "_law_most"] (defScope s__law_plans) := ⟨rfl, rfl, rfl, by decide +kernel, rfl, by decide +kernel, by decide +kernel⟩
noncomputable abbrev s__law_weave : Stmt := topS 44
noncomputable abbrev n__law_weave : List Str := ["_law_d", "_law_many", "_law_count", "_law_row", "_law_way", "_law_hand", "_law_k"]
theorem sc__law_weave : FnScope n__law_weave ["_law_d", "_law_many", "_law_count"] (defScope s__law_weave) := ⟨rfl, rfl, rfl, by decide +kernel, rfl, by decide +kernel, by decide +kernel⟩
noncomputable abbrev s_law : Stmt := topS 45
noncomputable abbrev n_law : List Str := ["_law_script", "_law_many", "_law_plans_here", "_law_hall", "_law_records", "_law_ones", "_law_counts", "_law_hand", "_law_deed_here", "_law_begin", "_law_end", "_law_answer", "_law_record", "_law_one", "_law_other"]
theorem sc_law : FnScope n_law ["_law_script"] (defScope s_law) := ⟨rfl, rfl, rfl, by decide +kernel, rfl, by decide +kernel, by decide +kernel⟩
noncomputable abbrev n_Boxes : List Str := ["many", "numbers", "log"]
noncomputable abbrev n_Scan : List Str := ["first", "many", "ahead", "row", "moved", "until", "view", "moment"]
noncomputable abbrev n_Memory : List Str := ["ones", "puts", "cells", "gifts", "took"]
noncomputable abbrev n_Work : List Str := ["deed", "hand", "memory", "first", "many", "answer", "moment", "stamp", "giver", "nth"]
noncomputable abbrev n_One : List Str := ["deed", "hand", "memory", "first", "many", "answer", "moment", "stamp", "giver", "nth"]
noncomputable abbrev n_Count : List Str := ["deed", "hand", "memory", "first", "many", "answer", "moment", "stamp", "giver", "nth", "row"]
noncomputable abbrev n_Look : List Str := ["deed", "hand", "memory", "first", "many", "answer", "moment", "stamp", "giver", "nth", "scan"]
noncomputable abbrev n_Change : List Str := ["deed", "hand", "memory", "first", "many", "answer", "moment", "stamp", "giver", "nth", "scan"]
noncomputable abbrev n_Give : List Str := ["deed", "hand", "memory", "first", "many", "answer", "moment", "stamp", "giver", "nth", "read"]
noncomputable abbrev n_Take : List Str := ["deed", "hand", "memory", "first", "many", "answer", "moment", "stamp", "giver", "nth", "rows", "again"]
noncomputable abbrev n_Done : List Str := ["work", "begin", "end"]
noncomputable abbrev n_Hall : List Str := ["many", "plans", "boxes", "memories", "underway", "begins", "own", "hands", "lent", "ended"]
set_option genInjectivity false
set_option genSizeOfSpec false
set_option genSizeOf false
structure EnvD (K : PySem.W.Frag) where
  i_Boxes : CI K n_Boxes
  i_Scan : CI K n_Scan
  i_Memory : CI K n_Memory
  i_Work : CI K n_Work
  i_One : CI K n_One
  i_Count : CI K n_Count
  i_Look : CI K n_Look
  i_Change : CI K n_Change
  i_Give : CI K n_Give
  i_Take : CI K n_Take
  i_Done : CI K n_Done
  i_Hall : CI K n_Hall
  f_Boxes_init : Addr
  fd_Boxes_init : FuncData
  f_Boxes_need : Addr
  fd_Boxes_need : FuncData
  f_Boxes_take : Addr
  fd_Boxes_take : FuncData
  f_Boxes_put : Addr
  fd_Boxes_put : FuncData
  f_need_deed : Addr
  fd_need_deed : FuncData
  f_packed : Addr
  fd_packed : FuncData
  f_parted : Addr
  fd_parted : FuncData
  f_cell_of : Addr
  fd_cell_of : FuncData
  f_Scan_init : Addr
  fd_Scan_init : FuncData
  f_Scan_step : Addr
  fd_Scan_step : FuncData
  f_Scan_looked : Addr
  fd_Scan_looked : FuncData
  f_Memory_init : Addr
  fd_Memory_init : FuncData
  f_Work_init : Addr
  fd_Work_init : FuncData
  f_Work_step : Addr
  fd_Work_step : FuncData
  f_One_step : Addr
  fd_One_step : FuncData
  f_Count_init : Addr
  fd_Count_init : FuncData
  f_Count_step : Addr
  fd_Count_step : FuncData
  f_Look_init : Addr
  fd_Look_init : FuncData
  f_Look_step : Addr
  fd_Look_step : FuncData
  f_Change_init : Addr
  fd_Change_init : FuncData
  f_Change_step : Addr
  fd_Change_step : FuncData
  f_Give_init : Addr
  fd_Give_init : FuncData
  f_Give_step : Addr
  fd_Give_step : FuncData
  f_Take_init : Addr
  fd_Take_init : FuncData
  f_Take_step : Addr
  fd_Take_step : FuncData
  f_Take_rank : Addr
  fd_Take_rank : FuncData
  f_work_of : Addr
  fd_work_of : FuncData
  f_Done_init : Addr
  fd_Done_init : FuncData
  f_Hall_init : Addr
  fd_Hall_init : FuncData
  f_Hall_need_hand : Addr
  fd_Hall_need_hand : FuncData
  f_Hall_step : Addr
  fd_Hall_step : FuncData
  f_Hall_weave : Addr
  fd_Hall_weave : FuncData
  f_Hall_records : Addr
  fd_Hall_records : FuncData
  f__law_cell : Addr
  fd__law_cell : FuncData
  f__law_dice : Addr
  fd__law_dice : FuncData
  f__law_off : Addr
  fd__law_off : FuncData
  f__law_deed : Addr
  fd__law_deed : FuncData
  f__law_plans : Addr
  fd__law_plans : FuncData
  f__law_weave : Addr
  fd__law_weave : FuncData
  f_law : Addr
  fd_law : FuncData
  e_HandsError : Addr
  e_NoNumber : Addr
  e_NoBox : Addr
  e_NoHand : Addr
  e_NoDeed : Addr
  gt_MOST_NUMBER : Tok
  a_WITH_NUMBER : Addr
  a_ALONE : Addr
  gt_BASE : Tok
  ww : World
  a_PLACES : Addr
  gt_MOST_HANDS : Tok
  gt_MOST_DEEDS : Tok
  gt_THINGS : Tok
structure EnvP (K : PySem.W.Frag) (mg : Str → Option Value) (D : EnvD K) : Prop where
  F_Boxes_init : Fun K "__init__" "Boxes.__init__" s_Boxes_init D.f_Boxes_init D.fd_Boxes_init
  b_Boxes_init : Binds K D.fd_Boxes_init ["self", "many"] []
  F_Boxes_need : Fun K "need" "Boxes.need" s_Boxes_need D.f_Boxes_need D.fd_Boxes_need
  b_Boxes_need : Binds K D.fd_Boxes_need ["self", "place"] []
  F_Boxes_take : Fun K "take" "Boxes.take" s_Boxes_take D.f_Boxes_take D.fd_Boxes_take
  b_Boxes_take : Binds K D.fd_Boxes_take ["self", "place"] []
  F_Boxes_put : Fun K "put" "Boxes.put" s_Boxes_put D.f_Boxes_put D.fd_Boxes_put
  b_Boxes_put : Binds K D.fd_Boxes_put ["self", "place", "number"] []
  F_need_deed : Fun K "need_deed" "need_deed" s_need_deed D.f_need_deed D.fd_need_deed
  b_need_deed : Binds K D.fd_need_deed ["deed", "hand"] []
  g_need_deed : mg "need_deed" = some (.ref D.f_need_deed)
  k_need_deed : PySem.W.keepIn K (.ref D.f_need_deed) = true
  F_packed : Fun K "packed" "packed" s_packed D.f_packed D.fd_packed
  b_packed : Binds K D.fd_packed ["row"] []
  g_packed : mg "packed" = some (.ref D.f_packed)
  k_packed : PySem.W.keepIn K (.ref D.f_packed) = true
  F_parted : Fun K "parted" "parted" s_parted D.f_parted D.fd_parted
  b_parted : Binds K D.fd_parted ["number"] []
  g_parted : mg "parted" = some (.ref D.f_parted)
  k_parted : PySem.W.keepIn K (.ref D.f_parted) = true
  F_cell_of : Fun K "cell_of" "cell_of" s_cell_of D.f_cell_of D.fd_cell_of
  b_cell_of : Binds K D.fd_cell_of ["number"] []
  g_cell_of : mg "cell_of" = some (.ref D.f_cell_of)
  k_cell_of : PySem.W.keepIn K (.ref D.f_cell_of) = true
  F_Scan_init : Fun K "__init__" "Scan.__init__" s_Scan_init D.f_Scan_init D.fd_Scan_init
  b_Scan_init : Binds K D.fd_Scan_init ["self", "first", "many"] []
  F_Scan_step : Fun K "step" "Scan.step" s_Scan_step D.f_Scan_step D.fd_Scan_step
  b_Scan_step : Binds K D.fd_Scan_step ["self", "boxes", "clock", "lent"] []
  F_Scan_looked : Fun K "looked" "Scan.looked" s_Scan_looked D.f_Scan_looked D.fd_Scan_looked
  b_Scan_looked : Binds K D.fd_Scan_looked ["self", "lent"] []
  F_Memory_init : Fun K "__init__" "Memory.__init__" s_Memory_init D.f_Memory_init D.fd_Memory_init
  b_Memory_init : Binds K D.fd_Memory_init ["self", "many"] []
  F_Work_init : Fun K "__init__" "Work.__init__" s_Work_init D.f_Work_init D.fd_Work_init
  b_Work_init : Binds K D.fd_Work_init ["self", "deed", "hand", "memory", "first", "many"] []
  F_Work_step : Fun K "step" "Work.step" s_Work_step D.f_Work_step D.fd_Work_step
  b_Work_step : Binds K D.fd_Work_step ["self", "boxes", "clock", "lent"] []
  F_One_step : Fun K "step" "One.step" s_One_step D.f_One_step D.fd_One_step
  b_One_step : Binds K D.fd_One_step ["self", "boxes", "clock", "lent"] []
  F_Count_init : Fun K "__init__" "Count.__init__" s_Count_init D.f_Count_init D.fd_Count_init
  b_Count_init : Binds K D.fd_Count_init ["self", "deed", "hand", "memory", "first", "many"] []
  F_Count_step : Fun K "step" "Count.step" s_Count_step D.f_Count_step D.fd_Count_step
  b_Count_step : Binds K D.fd_Count_step ["self", "boxes", "clock", "lent"] []
  F_Look_init : Fun K "__init__" "Look.__init__" s_Look_init D.f_Look_init D.fd_Look_init
  b_Look_init : Binds K D.fd_Look_init ["self", "deed", "hand", "memory", "first", "many"] []
  F_Look_step : Fun K "step" "Look.step" s_Look_step D.f_Look_step D.fd_Look_step
  b_Look_step : Binds K D.fd_Look_step ["self", "boxes", "clock", "lent"] []
  F_Change_init : Fun K "__init__" "Change.__init__" s_Change_init D.f_Change_init D.fd_Change_init
  b_Change_init : Binds K D.fd_Change_init ["self", "deed", "hand", "memory", "first", "many"] []
  F_Change_step : Fun K "step" "Change.step" s_Change_step D.f_Change_step D.fd_Change_step
  b_Change_step : Binds K D.fd_Change_step ["self", "boxes", "clock", "lent"] []
  F_Give_init : Fun K "__init__" "Give.__init__" s_Give_init D.f_Give_init D.fd_Give_init
  b_Give_init : Binds K D.fd_Give_init ["self", "deed", "hand", "memory", "first", "many"] []
  F_Give_step : Fun K "step" "Give.step" s_Give_step D.f_Give_step D.fd_Give_step
  b_Give_step : Binds K D.fd_Give_step ["self", "boxes", "clock", "lent"] []
  F_Take_init : Fun K "__init__" "Take.__init__" s_Take_init D.f_Take_init D.fd_Take_init
  b_Take_init : Binds K D.fd_Take_init ["self", "deed", "hand", "memory", "first", "many"] []
  F_Take_step : Fun K "step" "Take.step" s_Take_step D.f_Take_step D.fd_Take_step
  b_Take_step : Binds K D.fd_Take_step ["self", "boxes", "clock", "lent"] []
  F_Take_rank : Fun K "rank" "Take.rank" s_Take_rank D.f_Take_rank D.fd_Take_rank
  b_Take_rank : Binds K D.fd_Take_rank ["self", "k"] []
  F_work_of : Fun K "work_of" "work_of" s_work_of D.f_work_of D.fd_work_of
  b_work_of : Binds K D.fd_work_of ["deed", "hand", "memory", "many"] []
  g_work_of : mg "work_of" = some (.ref D.f_work_of)
  k_work_of : PySem.W.keepIn K (.ref D.f_work_of) = true
  F_Done_init : Fun K "__init__" "Done.__init__" s_Done_init D.f_Done_init D.fd_Done_init
  b_Done_init : Binds K D.fd_Done_init ["self", "work", "begin", "end"] []
  F_Hall_init : Fun K "__init__" "Hall.__init__" s_Hall_init D.f_Hall_init D.fd_Hall_init
  b_Hall_init : Binds K D.fd_Hall_init ["self", "plans"] []
  F_Hall_need_hand : Fun K "need_hand" "Hall.need_hand" s_Hall_need_hand D.f_Hall_need_hand D.fd_Hall_need_hand
  b_Hall_need_hand : Binds K D.fd_Hall_need_hand ["self", "hand"] []
  F_Hall_step : Fun K "step" "Hall.step" s_Hall_step D.f_Hall_step D.fd_Hall_step
  b_Hall_step : Binds K D.fd_Hall_step ["self", "hand"] []
  F_Hall_weave : Fun K "weave" "Hall.weave" s_Hall_weave D.f_Hall_weave D.fd_Hall_weave
  b_Hall_weave : Binds K D.fd_Hall_weave ["self", "row"] []
  F_Hall_records : Fun K "records" "Hall.records" s_Hall_records D.f_Hall_records D.fd_Hall_records
  b_Hall_records : Binds K D.fd_Hall_records ["self"] []
  F__law_cell : Fun K "_law_cell" "_law_cell" s__law_cell D.f__law_cell D.fd__law_cell
  b__law_cell : Binds K D.fd__law_cell ["_law_script", "_law_k"] []
  g__law_cell : mg "_law_cell" = some (.ref D.f__law_cell)
  k__law_cell : PySem.W.keepIn K (.ref D.f__law_cell) = true
  F__law_dice : Fun K "_law_dice" "_law_dice" s__law_dice D.f__law_dice D.fd__law_dice
  b__law_dice : Binds K D.fd__law_dice ["_law_script", "_law_k"] []
  g__law_dice : mg "_law_dice" = some (.ref D.f__law_dice)
  k__law_dice : PySem.W.keepIn K (.ref D.f__law_dice) = true
  F__law_off : Fun K "_law_off" "_law_off" s__law_off D.f__law_off D.fd__law_off
  b__law_off : Binds K D.fd__law_off ["_law_d", "_law_most"] []
  g__law_off : mg "_law_off" = some (.ref D.f__law_off)
  k__law_off : PySem.W.keepIn K (.ref D.f__law_off) = true
  F__law_deed : Fun K "_law_deed" "_law_deed" s__law_deed D.f__law_deed D.fd__law_deed
  b__law_deed : Binds K D.fd__law_deed ["_law_d", "_law_word"] []
  g__law_deed : mg "_law_deed" = some (.ref D.f__law_deed)
  k__law_deed : PySem.W.keepIn K (.ref D.f__law_deed) = true
  F__law_plans : Fun K "_law_plans" "_law_plans" s__law_plans D.f__law_plans D.fd__law_plans
  b__law_plans : Binds K D.fd__law_plans ["_law_d", "_law_many", "_law_words", "_law_most"] []
  g__law_plans : mg "_law_plans" = some (.ref D.f__law_plans)
  k__law_plans : PySem.W.keepIn K (.ref D.f__law_plans) = true
  F__law_weave : Fun K "_law_weave" "_law_weave" s__law_weave D.f__law_weave D.fd__law_weave
  b__law_weave : Binds K D.fd__law_weave ["_law_d", "_law_many", "_law_count"] []
  g__law_weave : mg "_law_weave" = some (.ref D.f__law_weave)
  k__law_weave : PySem.W.keepIn K (.ref D.f__law_weave) = true
  F_law : Fun K "law" "law" s_law D.f_law D.fd_law
  b_law : Binds K D.fd_law ["_law_script"] []
  g_law : mg "law" = some (.ref D.f_law)
  k_law : PySem.W.keepIn K (.ref D.f_law) = true
  g_Boxes : mg "Boxes" = some (.ref D.i_Boxes.C)
  mk_Boxes : Mk K D.i_Boxes.C D.f_Boxes_init
  m_Boxes_need : Meth K D.i_Boxes.C "need" D.f_Boxes_need
  m_Boxes_take : Meth K D.i_Boxes.C "take" D.f_Boxes_take
  m_Boxes_put : Meth K D.i_Boxes.C "put" D.f_Boxes_put
  g_Scan : mg "Scan" = some (.ref D.i_Scan.C)
  mk_Scan : Mk K D.i_Scan.C D.f_Scan_init
  m_Scan_step : Meth K D.i_Scan.C "step" D.f_Scan_step
  m_Scan_looked : Meth K D.i_Scan.C "looked" D.f_Scan_looked
  g_Memory : mg "Memory" = some (.ref D.i_Memory.C)
  mk_Memory : Mk K D.i_Memory.C D.f_Memory_init
  g_Work : mg "Work" = some (.ref D.i_Work.C)
  mk_Work : Mk K D.i_Work.C D.f_Work_init
  m_Work_step : Meth K D.i_Work.C "step" D.f_Work_step
  g_One : mg "One" = some (.ref D.i_One.C)
  mk_One : Mk K D.i_One.C D.f_Work_init
  m_One_step : Meth K D.i_One.C "step" D.f_One_step
  g_Count : mg "Count" = some (.ref D.i_Count.C)
  mk_Count : Mk K D.i_Count.C D.f_Count_init
  m_Count_step : Meth K D.i_Count.C "step" D.f_Count_step
  g_Look : mg "Look" = some (.ref D.i_Look.C)
  mk_Look : Mk K D.i_Look.C D.f_Look_init
  m_Look_step : Meth K D.i_Look.C "step" D.f_Look_step
  g_Change : mg "Change" = some (.ref D.i_Change.C)
  mk_Change : Mk K D.i_Change.C D.f_Change_init
  m_Change_step : Meth K D.i_Change.C "step" D.f_Change_step
  g_Give : mg "Give" = some (.ref D.i_Give.C)
  mk_Give : Mk K D.i_Give.C D.f_Give_init
  m_Give_step : Meth K D.i_Give.C "step" D.f_Give_step
  g_Take : mg "Take" = some (.ref D.i_Take.C)
  mk_Take : Mk K D.i_Take.C D.f_Take_init
  m_Take_step : Meth K D.i_Take.C "step" D.f_Take_step
  m_Take_rank : Meth K D.i_Take.C "rank" D.f_Take_rank
  g_Done : mg "Done" = some (.ref D.i_Done.C)
  mk_Done : Mk K D.i_Done.C D.f_Done_init
  g_Hall : mg "Hall" = some (.ref D.i_Hall.C)
  mk_Hall : Mk K D.i_Hall.C D.f_Hall_init
  m_Hall_need_hand : Meth K D.i_Hall.C "need_hand" D.f_Hall_need_hand
  m_Hall_step : Meth K D.i_Hall.C "step" D.f_Hall_step
  m_Hall_weave : Meth K D.i_Hall.C "weave" D.f_Hall_weave
  m_Hall_records : Meth K D.i_Hall.C "records" D.f_Hall_records
  bm_Take_rank : BMeth K D.i_Take.C "rank" D.f_Take_rank
  cr_Work : ClX.CRead K D.i_Work.C (.type "type")
  cf_Work_init : PySem.W.findCls K (.ref D.i_Work.C) (.type "type") "__init__" = some (.val (.ref D.f_Work_init))
  kk_Work_init : PySem.W.keepIn K (.ref D.f_Work_init) = true
  g_HandsError : mg "HandsError" = some (.ref D.e_HandsError)
  k_HandsError : PySem.W.keepIn K (.ref D.e_HandsError) = true
  x_HandsError : PySem.W.excIn K D.e_HandsError [.type "ValueError", .type "Exception", .type "BaseException", .type "object"] "ValueError.__new__" = true
  xb_HandsError : PySem.W.subIn K (.ref D.e_HandsError) (.type "BaseException") = some true
  xt_HandsError : PySem.W.typeIn K (.ref D.e_HandsError) = some (.type "type")
  g_NoNumber : mg "NoNumber" = some (.ref D.e_NoNumber)
  k_NoNumber : PySem.W.keepIn K (.ref D.e_NoNumber) = true
  x_NoNumber : PySem.W.excIn K D.e_NoNumber [.type "ValueError", .type "Exception", .type "BaseException", .type "object"] "ValueError.__new__" = true
  xb_NoNumber : PySem.W.subIn K (.ref D.e_NoNumber) (.type "BaseException") = some true
  xt_NoNumber : PySem.W.typeIn K (.ref D.e_NoNumber) = some (.type "type")
  g_NoBox : mg "NoBox" = some (.ref D.e_NoBox)
  k_NoBox : PySem.W.keepIn K (.ref D.e_NoBox) = true
  x_NoBox : PySem.W.excIn K D.e_NoBox [.type "ValueError", .type "Exception", .type "BaseException", .type "object"] "ValueError.__new__" = true
  xb_NoBox : PySem.W.subIn K (.ref D.e_NoBox) (.type "BaseException") = some true
  xt_NoBox : PySem.W.typeIn K (.ref D.e_NoBox) = some (.type "type")
  g_NoHand : mg "NoHand" = some (.ref D.e_NoHand)
  k_NoHand : PySem.W.keepIn K (.ref D.e_NoHand) = true
  x_NoHand : PySem.W.excIn K D.e_NoHand [.type "ValueError", .type "Exception", .type "BaseException", .type "object"] "ValueError.__new__" = true
  xb_NoHand : PySem.W.subIn K (.ref D.e_NoHand) (.type "BaseException") = some true
  xt_NoHand : PySem.W.typeIn K (.ref D.e_NoHand) = some (.type "type")
  g_NoDeed : mg "NoDeed" = some (.ref D.e_NoDeed)
  k_NoDeed : PySem.W.keepIn K (.ref D.e_NoDeed) = true
  x_NoDeed : PySem.W.excIn K D.e_NoDeed [.type "ValueError", .type "Exception", .type "BaseException", .type "object"] "ValueError.__new__" = true
  xb_NoDeed : PySem.W.subIn K (.ref D.e_NoDeed) (.type "BaseException") = some true
  xt_NoDeed : PySem.W.typeIn K (.ref D.e_NoDeed) = some (.type "type")
  g_MOST_NUMBER : mg "MOST_NUMBER" = some (.int 999 D.gt_MOST_NUMBER)
  g_WITH_NUMBER : mg "WITH_NUMBER" = some (.ref D.a_WITH_NUMBER)
  t_WITH_NUMBER : ∀ H, SqT K H D.a_WITH_NUMBER [.str "set", .str "add", .str "raise", .str "give"]
  g_ALONE : mg "ALONE" = some (.ref D.a_ALONE)
  t_ALONE : ∀ H, SqT K H D.a_ALONE [.str "one", .str "count", .str "look", .str "sum", .str "top", .str "take"]
  g_BASE : mg "BASE" = some (.int 1000000 D.gt_BASE)
  g_PLACES : mg "PLACES" = some (.ref D.a_PLACES)
  d_PLACES_one : KDct K D.ww D.a_PLACES "one" (.int 0)
  d_PLACES_count : KDct K D.ww D.a_PLACES "count" (.int 0)
  d_PLACES_set : KDct K D.ww D.a_PLACES "set" (.int 1)
  d_PLACES_look : KDct K D.ww D.a_PLACES "look" (.int 1)
  d_PLACES_add : KDct K D.ww D.a_PLACES "add" (.int 2)
  d_PLACES_sum : KDct K D.ww D.a_PLACES "sum" (.int 2)
  d_PLACES_raise : KDct K D.ww D.a_PLACES "raise" (.int 3)
  d_PLACES_top : KDct K D.ww D.a_PLACES "top" (.int 3)
  d_PLACES_give : KDct K D.ww D.a_PLACES "give" (.int 4)
  d_PLACES_take : KDct K D.ww D.a_PLACES "take" (.int 4)
  g_MOST_HANDS : mg "MOST_HANDS" = some (.int 4 D.gt_MOST_HANDS)
  g_MOST_DEEDS : mg "MOST_DEEDS" = some (.int 40 D.gt_MOST_DEEDS)
  g_THINGS : mg "THINGS" = some (.int 5 D.gt_THINGS)
  bn_len : mg "len" = none
  bn_abs : mg "abs" = none
  bn_sum : mg "sum" = none
  bn_max : mg "max" = none
  bn_min : mg "min" = none
  bn_int : mg "int" = none
  bn_isinstance : mg "isinstance" = none
  bn_list : mg "list" = none
  bn_tuple : mg "tuple" = none
  bn_range : mg "range" = none
  bn_reversed : mg "reversed" = none
  bn_enumerate : mg "enumerate" = none
  bn_bool : mg "bool" = none
  bn_ValueError : mg "ValueError" = none
structure Env (K : PySem.W.Frag) (mg : Str → Option Value) extends EnvD K, EnvP K mg toEnvD
local macro_rules | `(tactic| ktf_call "mem") => `(tactic| first | with_reducible assumption | with_reducible exact List.mem_cons_self | ((with_reducible refine' List.mem_cons_of_mem _ ?w9); (case w9 => ktf_call "mem")))
local macro_rules | `(tactic| ktf_call "pick") => `(tactic| first | with_reducible exact Pick.hd | with_reducible exact pick_mapNil | with_reducible exact pick_nats | ((with_reducible refine' Pick.tl ?w9); (case w9 => ktf_call "pick")))
local macro_rules | `(tactic| ktf_call "picks") => `(tactic| first | with_reducible exact Picks.nil | (with_reducible refine' Picks.cons ?w1 ?w2; (case w1 => ktf_call "pick"); (case w2 => ktf_call "picks")))
local macro_rules | `(tactic| ktf_call "rep") => `(tactic| first | with_reducible exact Rep.hd | ((with_reducible refine' Rep.tl ?w9); (case w9 => ktf_call "rep")))
local macro_rules | `(tactic| ktf_call "fput") => `(tactic| first | with_reducible exact FPut.hd | with_reducible exact FPut.new | ((with_reducible refine' FPut.tl ?w9); (case w9 => ktf_call "fput")))
local macro_rules | `(tactic| ktf_call "rdl") => `(tactic| first | with_reducible assumption | ((with_reducible refine' rdl_pt ?w9); (case w9 => ktf_call "mem")) | ((with_reducible refine' rdl_scr ?w9); (case w9 => ktf_call "mem")) | ((with_reducible refine' RdL.cons ?w9); (case w9 => ktf_call "rdl")))
local macro_rules | `(tactic| ktf_call "rdt") => `(tactic| first | with_reducible assumption | ((with_reducible refine' rdt_tups ?w8 ?w9); (case w9 => with_reducible assumption); (case w8 => ktf_call "mem")) | ((with_reducible refine' rdt_pt ?w9); (case w9 => ktf_call "mem")) | ((with_reducible refine' RdT.cons ?w9); (case w9 => ktf_call "rdt")))
local macro_rules | `(tactic| ktf_call "lens") => `(tactic| first | omega | (simp only [List.length_map, List.length_append, List.length_cons, List.length_nil, List.length_set, List.length_replicate, List.length_reverse, List.length_tail]; omega) | ((simp only [List.length_map, List.length_append, List.length_cons, List.length_nil, List.length_set, List.length_replicate, List.length_reverse, List.length_tail] at *); omega))
local macro_rules | `(tactic| ktf_call "len") => `(tactic| first | assumption | ((with_reducible refine' Nat.lt_of_le_of_lt (m := 1000000) ?_ (by decide)); ktf_call "lens") | ((with_reducible refine' Nat.le_trans (m := 1000000) ?_ (by decide)); ktf_call "lens"))
local macro_rules | `(tactic| ktf_call "drops") => `(tactic| first | with_reducible exact Drops.refl | ((with_reducible refine' Drops.tl ?w9); (case w9 => ktf_call "drops")))
local macro_rules | `(tactic| ktf_call "keep") => `(tactic| first | with_reducible exact Keep.rest Drops.refl | with_reducible exact Keep.nil | (with_reducible refine' Keep.cons ?w1 ?w2; (case w1 => ktf_call "pick"); (case w2 => ktf_call "keep")) | (with_reducible refine' Keep.rest ?w1; (case w1 => ktf_call "drops")) | ktf_call "fold")
local macro_rules | `(tactic| ktf_call "fold") => `(tactic| first | ((with_reducible refine' Keep.fold ent_scanC ?w1); (case w1 => ktf_call "keep")) | ((with_reducible refine' Keep.fold ent_memC ?w1); (case w1 => ktf_call "keep")) | ((with_reducible refine' Keep.fold ent_oneC ?w1); (case w1 => ktf_call "keep")) | ((with_reducible refine' Keep.fold ent_countC ?w1); (case w1 => ktf_call "keep")) | ((with_reducible refine' Keep.fold ent_scanWC ?w1); (case w1 => ktf_call "keep")) | ((with_reducible refine' Keep.fold ent_giveC ?w1); (case w1 => ktf_call "keep")) | ((with_reducible refine' Keep.fold ent_takeC ?w1); (case w1 => ktf_call "keep")) | ((with_reducible refine' Keep.fold optN ?w1); (case w1 => ktf_call "keep")) | ((with_reducible refine' Keep.fold optL ?w1); (case w1 => ktf_call "keep")) | ((with_reducible refine' Keep.fold Ent.dice ?w1); (case w1 => ktf_call "keep")) | ((with_reducible refine' Keep.fold Ent.plainC ?w1); (case w1 => ktf_call "keep")) | ((with_reducible refine' Keep.fold Ent.dictC ?w1); (case w1 => ktf_call "keep")) | ((with_reducible refine' Keep.fold ansN ?w1); (case w1 => ktf_call "keep")) | ((with_reducible refine' Keep.fold ansI ?w1); (case w1 => ktf_call "keep")) | ((with_reducible refine' Keep.fold ansT ?w1); (case w1 => ktf_call "keep")))
local macro_rules | `(tactic| ktf_call "ent") => `(tactic| (refine Ent.keep ?_; ktf_call "keep"))
local macro_rules | `(tactic| ktf_call "kput") => `(tactic| first | with_reducible exact KPut.hd | ((with_reducible refine' KPut.tl ?w9); (case w9 => ktf_call "kput")))
local macro_rules | `(tactic| ktf_call "kvs") => `(tactic| first | with_reducible exact KVs.nil | ((with_reducible refine' KVs.str ?w9); (case w9 => ktf_call "kvs")) | ((with_reducible refine' KVs.int ?w9); (case w9 => ktf_call "kvs")))
local macro_rules | `(tactic| ktf_call "typ") => `(tactic| first | with_reducible assumption | with_reducible exact TyP.non | with_reducible exact TyP.int _ | with_reducible exact TyP.bl _ | with_reducible exact TyP.str _ | ((with_reducible refine' TyP.lst ?w9); (case w9 => ktf_call "mem")) | ((with_reducible refine' TyP.tup ?w9); (case w9 => ktf_call "mem")))
local macro_rules | `(tactic| ktf_call "rdd") => `(tactic| first | with_reducible assumption | with_reducible exact rdd_int | with_reducible exact rdd_non | with_reducible exact rdd_bl | (refine' rdd_nil ?w9; (case w9 => ktf_call "rdl")) | (refine' rdd_ints ?w9; (case w9 => ktf_call "rdl")))
local macro_rules | `(tactic| ktf_call "efact") => `(tactic| with_reducible assumption)
local macro_rules | `(tactic| ktf_call "step") => `(tactic| first
  | (with_reducible first | refine ws_seq ?_ | refine ws_asg ?_ | refine wg_nil ?_ | refine wg_one ?_ | refine wg_name ?_)
  | ((with_reducible refine' we_var ?w1 ?wd); (case w1 => exact rfl))
  | with_reducible refine we_c ?_
  | (with_reducible refine we_fld ?_)
  | ((with_reducible refine' fldG ?w1 ?w2 ?w3 ?wd); (case w1 => ktf_call "mem"); (case w2 => exact rfl); (case w3 => ktf_call "mem"))
  | with_reducible refine ws_fld ?_
  | ((with_reducible refine' fldS ?w1 ?w2 ?w3 ?w4 ?wd); (case w1 => ktf_call "mem"); (case w2 => ktf_call "fput"); (case w3 => exact rfl); (case w4 => ktf_call "rep"))
  | (with_reducible first | refine we_op ?_ | refine w2_I0 ?_)
  | ((with_reducible refine' w2_eq ?w1 ?wd); (case w1 => exact rfl))
  | ((with_reducible refine' w2_ne ?w1 ?wd); (case w1 => exact rfl))
  | ((with_reducible refine' w2_I ?wc ?wd); (case wc => first | omega | exact cmul_if | exact cmul_if2 | exact Or.inr (And.intro (by omega) (by omega)) | exact Or.inl (And.intro (by omega) (by omega)) | exact Or.inr ⟨by decide, by decide⟩ | exact Or.inl ⟨by decide, by decide⟩ | exact And.intro (by decide) (by decide) | (show (0 : Int) < _; omega) | exact ⟨by decide, by decide, by decide⟩))
  | ((with_reducible refine' w2_ixL ?w1 ?w2 ?wd); (case w1 => ktf_call "rdl"); (case w2 => exact rfl))
  | ((with_reducible refine' w2_ixT ?w1 ?w2 ?wd); (case w1 => ktf_call "rdt"); (case w2 => exact rfl))
  | ((with_reducible refine' wst_Lz ?w1 ?w2 ?w3 ?wd); (case w1 => ktf_call "rep"); (case w2 => first | decide | omega); (case w3 => first | omega | ((simp only [List.length_cons, List.length_nil, List.length_set]); decide)))
  | (with_reducible first | refine wt_test ?_ | refine wt_B ?_ | refine boolG ?_ | refine wt_not ?_ | refine wt_and ?_ | refine wt_or ?_ | refine wt_yes ?_ | refine we_chain ?_ | refine chainG ?_ | refine we_andV ?_ | refine we_orV ?_ | refine andG ?_ | refine orG ?_ | refine we_notV ?_ | refine we_eqN ?_ | refine we_neN ?_ | refine ws_if ?_ | refine iteT ?_ | refine iteF ?_ | refine iteNT ?_ | refine iteNF ?_ | refine ws_next ?_ | refine ws_ret ?_ | refine ws_retN ?_ | refine ws_drop ?_ | refine ws_break ?_ | refine ws_cont ?_ | refine wa_nil ?_ | refine wa_cons ?_)
  | (with_reducible refine we_lst ?_)
  | (with_reducible refine we_tup ?_)
  | ((with_reducible refine' newG ?w1 fun _ => ?wd); (case w1 => ktf_call "len"))
  | with_reducible refine we_dnewK fun _ => ?_
  | with_reducible refine we_dnewT fun _ => ?_
  | (with_reducible first | refine we_CB ?_ | refine we_BM ?_ | refine we_BM0 ?_)
  | ((with_reducible refine' tyL ?w1 ?wd); (case w1 => ktf_call "rdl"))
  | ((with_reducible refine' wm_append ?w1 ?w2 ?wd); (case w1 => ktf_call "rep"); (case w2 => ktf_call "len"))
  | ((with_reducible refine' wc_lenL ?w1 ?wd); (case w1 => ktf_call "rdl"))
  | ((with_reducible refine' wc_lenT ?w1 ?wd); (case w1 => ktf_call "rdt"))
  | (with_reducible first | refine wc_abs ?_ | refine wc_max2 ?_ | refine wc_min2 ?_ | refine wc_int ?_ | refine wc_intB ?_ | refine we_un ?_ | refine w1_U ?_ | refine we_sl ?_ | refine wo_none ?_ | refine wo_some ?_ | refine intG ?_ | refine we_dget ?_ | refine we_din ?_ | refine we_dnotin ?_ | refine ws_dput ?_ | refine wg_sub ?_ | refine we_call ?_)
  | with_reducible refine we_callX (by assumption) ?_
  | with_reducible refine we_meth ?_
  | with_reducible refine we_methX (by assumption) ?_
  | ((with_reducible refine' methG ?w1 ?w2 ?w3 ?wd); (case w1 => ktf_call "mem"); (case w2 => exact rfl); (case w3 => decide +kernel))
  | ((with_reducible refine' methPlain ?w1 ?w2 ?w3 ?wd); (case w1 => ktf_call "mem"); (case w2 => exact rfl); (case w3 => decide +kernel))
  | with_reducible refine we_make ?_
  | with_reducible refine we_makeX (by assumption) ?_
  | ((with_reducible refine wipG ?w1 ?wd); (case w1 => exact rfl))
  | ((with_reducible refine' accG ?w1 ?w2 ?wd); (case w1 => ktf_call "rep"); (case w2 => ktf_call "len"))
  | ((with_reducible refine' wc_isi ?w1 ?w2 ?wd); (case w1 => ktf_call "typ"); (case w2 => first | (show _ = some false; decide +kernel) | (show _ = some true; decide +kernel)))
  | ((with_reducible refine' wc_listL ?w1 fun _ => ?wd); (case w1 => ktf_call "rdl"))
  | ((with_reducible refine' w2_eqD ?w1 ?w2 ?wd); (case w1 => ktf_call "rdd"); (case w2 => ktf_call "rdd"))
  | ((with_reducible refine' w2_neD ?w1 ?w2 ?wd); (case w1 => ktf_call "rdd"); (case w2 => ktf_call "rdd"))
  | (with_reducible first | refine we_clsfn ?_ | refine clsG ?_)
  | with_reducible refine we_callS (by assumption) ?_
  | with_reducible refine we_methS (by assumption) ?_
  | with_reducible refine we_makeS (by assumption) ?_
  | ((with_reducible refine' wc_isE ?w1 ?wd); (case w1 => ktf_call "efact"))
  | ((with_reducible refine' wc_isEV ?w1 ?wd); (case w1 => ktf_call "efact"))
  | ((with_reducible refine' wc_isET3 ?w0 ?w1 ?w2 ?w3 ?wd); (case w0 => ktf_call "mem"); (case w1 => ktf_call "efact"); (case w2 => ktf_call "efact"); (case w3 => ktf_call "efact"))
  | with_reducible refine we_dispG fun _ => ?_
  | (with_reducible first | refine wp_nil ?_ | refine wp_cons ?_)
  | ((with_reducible refine' dispG ?w1 ?w2 ?w3 ?w4 ?wd); (case w1 => ktf_call "kvs"); (case w2 => (simp only [List.map_cons, List.map_nil]); decide +kernel); (case w3 => first | decide | ((simp only [List.length_cons, List.length_nil]); first | done | decide)); (case w4 => ktf_call "rep"))
  | ((with_reducible refine' dgetS ?w1 ?w2 ?w3 ?wd); (case w1 => ktf_call "mem"); (case w2 => (simp only [List.map_cons, List.map_nil]); decide +kernel); (case w3 => ktf_call "mem"))
  | ((with_reducible refine' dputS ?w1 ?w2 ?w3 ?w4 ?w5 ?wd); (case w3 => ktf_call "mem"); (case w2 => ktf_call "kput"); (case w4 => ktf_call "rep"); (case w1 => (simp only [List.map_cons, List.map_nil]); decide +kernel); (case w5 => ktf_call "len"))
  | ((with_reducible refine' w2_inL ?w1 ?w2 ?w3 ?wd); (case w1 => ktf_call "rdl"); (case w2 => exact rfl); (case w3 => exact rfl))
  | ((with_reducible refine' w2_inT ?w1 ?w2 ?w3 ?wd); (case w1 => ktf_call "rdt"); (case w2 => exact rfl); (case w3 => exact rfl))
  | ((with_reducible refine' w2_ninL ?w1 ?w2 ?w3 ?wd); (case w1 => ktf_call "rdl"); (case w2 => exact rfl); (case w3 => exact rfl))
  | ((with_reducible refine' w2_ninT ?w1 ?w2 ?w3 ?wd); (case w1 => ktf_call "rdt"); (case w2 => exact rfl); (case w3 => exact rfl))
  | with_reducible refine wgs_cons ?_
  | ((with_reducible refine iteTe ?w1 ?wd); (case w1 => decide +kernel))
  | ((with_reducible refine iteFe ?w1 ?wd); (case w1 => decide +kernel))
  | ((with_reducible refine iteFd ?w1 ?wd); (case w1 => (intro z; cases z; done)))
  | ((with_reducible refine iteTd ?w1 ?wd); (case w1 => with_reducible first | assumption | exact rfl))
  | ((with_reducible refine iteNFd ?w1 ?wd); (case w1 => (intro z; cases z; done)))
  | ((with_reducible refine iteNTd ?w1 ?wd); (case w1 => with_reducible first | assumption | exact rfl))
  | ((with_reducible refine iteFd ?w1 ?wd); (case w1 => with_reducible assumption))
  | ((with_reducible refine iteNFd ?w1 ?wd); (case w1 => with_reducible assumption))
  | with_reducible refine wgs_nil ?_)
local macro_rules | `(tactic| ktf_call "step") => `(tactic| first
  | ((with_reducible refine' w2_ixI ?w1 ?w2 ?wd); (case w1 => ktf_call "rdl"); (case w2 => ktf_call "lens"))
  | (with_reducible first | refine w2_eqI ?_ | refine w2_neI ?_ | refine w2_eqDI ?_ | refine w2_neDI ?_)
  | ((with_reducible refine' wg_tup ?w1 ?w2 ?wd); (case w1 => ktf_call "rdt"); (case w2 => exact rfl))
  | ((with_reducible refine' w2_neL ?w1 ?w2 ?wd); (case w1 => ktf_call "rdl"); (case w2 => ktf_call "rdl"))
  | ((with_reducible refine' w2_eqL ?w1 ?w2 ?wd); (case w1 => ktf_call "rdl"); (case w2 => ktf_call "rdl"))
  | with_reducible refine we_lstRg ?_
  | ((with_reducible refine lrgG ?w1 fun _ => ?wd); (case w1 => ktf_call "lens"))
  | ((with_reducible refine' wc_sorted ?w1 fun _ _ _ _ => ?wd); (case w1 => ktf_call "rdl"))
  | ((with_reducible refine' w2_neA ?w1 ?w2 ?wd); (case w1 => first | with_reducible assumption | ((with_reducible refine' rdd_ansC ?w9); (case w9 => ktf_call "mem")) | ((with_reducible refine' rdd_ansR ?w9 ?w8); (case w9 => ktf_call "mem"); (case w8 => with_reducible assumption))); (case w2 => first | with_reducible assumption | ((with_reducible refine' rdd_ansC ?w9); (case w9 => ktf_call "mem")) | ((with_reducible refine' rdd_ansR ?w9 ?w8); (case w9 => ktf_call "mem"); (case w8 => with_reducible assumption))))
  | ((with_reducible refine' w2_catIs ?w1 ?w2 ?w3 fun _ => ?wd); (case w1 => ktf_call "mem"); (case w2 => ktf_call "mem"); (case w3 => ktf_call "lens"))
  | ((with_reducible refine' w2_catsI ?w1 ?w2 ?w3 fun _ => ?wd); (case w1 => ktf_call "mem"); (case w2 => ktf_call "mem"); (case w3 => ktf_call "lens"))
  | ((with_reducible refine' w2_catI ?w1 ?w2 ?w3 fun _ => ?wd); (case w1 => ktf_call "mem"); (case w2 => ktf_call "mem"); (case w3 => ktf_call "lens"))
  | ((with_reducible refine' wsl_tail ?w1 fun _ => ?wd); (case w1 => ktf_call "rdl"))
  | with_reducible refine we_lstRev ?_
  | ((with_reducible refine' revG ?w1 fun _ => ?wd); (case w1 => ktf_call "rdl"))
  | ((with_reducible refine' wst_LI ?w1 ?w2 ?wd); (case w1 => ktf_call "rep"); (case w2 => ktf_call "lens"))
  | ((with_reducible refine' wm_appendI ?w1 ?w2 ?wd); (case w1 => ktf_call "rep"); (case w2 => ktf_call "len"))
  | ((with_reducible refine' wm_pop0I ?w1 ?wd); (case w1 => ktf_call "rep"))
  | ((with_reducible refine' w2_repI ?w1 ?w2 fun _ => ?wd); (case w1 => ktf_call "mem"); (case w2 => omega))
  | ((with_reducible refine' w2_eqNil ?w1 ?w2 ?wd); (case w1 => ktf_call "rdl"); (case w2 => ktf_call "rdl"))
  | ((with_reducible refine' w2_neNil ?w1 ?w2 ?wd); (case w1 => ktf_call "rdl"); (case w2 => ktf_call "rdl"))
  | ((with_reducible refine' wc_topI ?w1 ?w2 ?wd); (case w1 => ktf_call "rdl"); (case w2 => omega))
  | ((with_reducible refine' wc_sum ?w1 ?wd); (case w1 => ktf_call "rdl"))
  | ((with_reducible refine' wc_tupL ?w1 fun _ => ?wd); (case w1 => ktf_call "rdl")))
local macro_rules | `(tactic| ktf_call "go") => `(tactic| repeat (ktf_call "step"))
section
noncomputable def pk : List Int → Int
  | [] => 1
  | x :: r => x + 1000000 * pk r
noncomputable def Small (row : List Int) : Prop := ∀ x ∈ row, 0 ≤ x ∧ x < 1000000
theorem Small.tail {x : Int} {r : List Int} (h : Small (x :: r)) : Small r := fun y m => h y (List.mem_cons_of_mem _ m)
theorem pk_back {row : List Int} {i : Nat} (hj : row.length - 1 - i < row.length) (hi : i < row.length := by assumption) : pk (row.drop (row.length - (i + 1))) = pk (row.drop (row.length - i)) * 1000000 + row[row.length - 1 - i] := by
  have e1 : row.drop (row.length - (i + 1)) = row[row.length - 1 - i] :: row.drop (row.length - i) := by
    have e : row.length - (i + 1) = row.length - 1 - i := by omega
    rw [e, List.drop_eq_getElem_cons hj]
    congr 2
    omega
  rw [e1]
  simp only [pk]
  rw [Int.mul_comm, Int.add_comm]
noncomputable def S_packed (K : PySem.W.Frag) : SP := fun vs ps Φ => ∃ (a : Addr) (row : List Int), vs = [.ref a] ∧ RdL K ps a (row.map V.int) ∧ Small row ∧ Φ (.int (pk row)) ps
section
variable {P : Program} {w : World} {K : PySem.W.Frag} {mg : Str → Option Value} {base : Heap}
def Bx (p : Prop) : Prop := p
theorem Bx.out {p : Prop} (h : Bx p) : p := h
theorem Bx.tr {p : Prop} (h : p) : Bx p = True := eq_true h
theorem ok_packed (E : Env K mg) : FnOk P w K mg base CX0 1 E.f_packed E.fd_packed ["row"] (spS (S_packed K)) := by
  refine Bx.out ?_
  simp (disch := with_unfolding_all
      refine okS E.F_packed sc_packed (fun vs ps Φ h => ?_) (fun cdv A outer s H E0 hr => ?_)
      · obtain ⟨n, row, rfl, _⟩ := h; rfl
      · refine ⟨_, ((pss_cons (ps_set (i := 1) sc_packed.nd rfl (by first | exact Or.inl rfl | exact Or.inr rfl) pe_int)
     (pss_cons (ps_for PassesOwn.never rfl (pi_reversed (by rfl) E.bn_reversed (pa_cons (pv 0) pa_nil)) (pg_name (i := 2) sc_packed.nd rfl (by first | exact Or.inl rfl | exact Or.inr rfl)) (pss_cons (ps_if (pt_not (pt_chain op_le op_lt pe_int (pv 2) (pe_glob (v := .int 1000000) (by rfl) E.g_BASE ⟨_, rfl⟩))) (pss_one ps_never) pss_nil)
     (pss_one (ps_set (i := 1) sc_packed.nd rfl (by first | exact Or.inl rfl | exact Or.inr rfl) (pe_op op_add (pe_op op_mul (pv 1) (pe_glob (v := .int 1000000) (by rfl) E.g_BASE ⟨_, rfl⟩)) (pv 2))))))
     (pss_one (ps_ret (pv 1)))))), fun vs ps Φ h => ?_⟩
        obtain ⟨a, row, rfl, rd, hs, k⟩ := h
        dsimp only [cxOf]
        show Ws _ _ _ _ _ [_, _, _] _
        ktf_call "go"
        refine ws_for (wi_V ?_)
        ktf_call "go"
        refine ⟨a, _, rfl, rd, fun i σ ps' => ∃ v, σ = [some (.ref a), some (.int (pk (row.drop (row.length - i)))), v] ∧ ps' = ps, ⟨none, by simp [pk], rfl⟩, ?_, ?_, ?_⟩
        · rintro i σ ps' ⟨v, rfl, rfl⟩ _
          exact rd
        · rintro i x ex σ ps' hi ⟨hx, rfl⟩ ⟨v, rfl, rfl⟩
          replace hi : i < row.length := by simpa [srcV] using hi
          have hj : row.length - 1 - i < row.length := by omega
          have hx' : x = V.int row[row.length - 1 - i] := by
            rw [List.length_map, List.getElem?_map, List.getElem?_eq_getElem hj] at hx
            simpa using hx.symm
          subst hx'
          have hb := hs row[row.length - 1 - i] (List.getElem_mem hj)
          ktf_call "go"
          refine iteD (fun _ => ?_) (fun z => absurd hb.1 z)
          ktf_call "go"
          refine iteND (fun z => absurd hb.2 z) (fun _ => ?_)
          ktf_call "go"
          refine ⟨some (.int row[row.length - 1 - i]), ?_, rfl⟩
          rw [pk_back hj]
          rfl
        · rintro σ ps' ⟨v, rfl, rfl⟩
          ktf_call "go"
          refine .here ?_
          have : (srcV K a (row.map V.int)).n = row.length := by simp [srcV]
          rw [this, Nat.sub_self, List.drop_zero]
          exact k) only [↓Bx.tr]
end
noncomputable def S_partedU : SP := fun vs ps Φ => ∃ (n : Int), vs = [.int n] ∧ (Mir.un n).length ≤ 1000 ∧ ∀ p, Φ (.ref p) (pt p (.lst ((Mir.un n).map V.int)) :: ps)
theorem z_parted {ps : List HP} {Φ : V → List HP → Prop} {n : Int} (h : (Mir.un n).length ≤ 1000) (k : ∀ p, Φ (.ref p) (pt p (.lst ((Mir.un n).map V.int)) :: ps)) : S_partedU [.int n] ps Φ := ⟨n, rfl, h, k⟩
theorem un_step {n : Int} (h : 1 < n) : Mir.un n = (n % 1000000) :: Mir.un (n / 1000000) := by rw [Mir.un, dif_pos h]
theorem un_end {n : Int} (h : ¬ 1 < n) : Mir.un n = [] := by rw [Mir.un, dif_neg h]
section
variable {P : Program} {w : World} {K : PySem.W.Frag} {mg : Str → Option Value} {base : Heap}
theorem ok_parted (E : Env K mg) : FnOk P w K mg base CX0 1 E.f_parted E.fd_parted ["number"] (spS S_partedU) := by
  refine Bx.out ?_
  simp (disch := with_unfolding_all
      refine okS E.F_parted sc_parted (fun vs ps Φ h => ?_) (fun cdv A outer s H E0 hr => ?_)
      · obtain ⟨n, rfl, _⟩ := h; rfl
      · refine ⟨_, ((pss_cons (ps_set (i := 1) sc_parted.nd rfl (by first | exact Or.inl rfl | exact Or.inr rfl) (pe_lst pa_nil))
     (pss_cons (ps_while PassesOwn.never (pt_cmpR op_gt (pv 0) pe_int (nomark _)) (pss_cons (ps_expr (pe_bm PySem.F.plainAttrs_list PySem.F.slot_list_append PySem.F.type_list_append mt_append (pv 1) (pa_cons (pe_op op_mod (pv 0) (pe_glob (v := .int 1000000) (by rfl) E.g_BASE ⟨_, rfl⟩)) pa_nil)))
     (pss_one (ps_set (i := 0) sc_parted.nd rfl (by first | exact Or.inl rfl | exact Or.inr rfl) (pe_op op_fdiv (pv 0) (pe_glob (v := .int 1000000) (by rfl) E.g_BASE ⟨_, rfl⟩))))))
     (pss_one (ps_ret (pv 1)))))), fun vs ps Φ h => ?_⟩
        obtain ⟨n, rfl, hl, k⟩ := h
        dsimp only [cxOf]
        show Ws _ _ _ _ _ [_, _] _
        ktf_call "go"
        rename_i p
        refine ws_while (fun m σ ps' => ∃ (pre : List Int) (z : Int), σ = [some (.int z), some (.ref p)] ∧ ps' = pt p (.lst (pre.map V.int)) :: ps ∧ Mir.un n = pre ++ Mir.un z ∧ m = (Mir.un z).length) ⟨_, [], n, rfl, rfl, rfl, rfl⟩ ?_
        rintro m σ ps' ⟨pre, z, rfl, rfl, hrow, rfl⟩
        have hlen : pre.length ≤ 1000 := by rw [hrow, List.length_append] at hl; omega
        ktf_call "go"
        refine iteD (fun h1 => ?_) (fun h1 => ?_)
        · ktf_call "go"
          refine ⟨(Mir.un (z / 1000000)).length, by rw [un_step h1]; simp, pre ++ [z % 1000000], z / 1000000, rfl, rfl, ?_, rfl⟩
          rw [hrow, un_step h1]; simp
        · ktf_call "go"
          rw [un_end h1, List.append_nil] at hrow
          rw [hrow] at k
          exact .here (k p)) only [↓Bx.tr]
end
section
variable {P : Program} {w : World} {K : PySem.W.Frag} {mg : Str → Option Value} {base : Heap}
noncomputable def S_binit (E : Env K mg) : SP := fun vs ps Φ => ∃ (x : Addr) (m : Int) (R : List HP), vs = [.ref x, .int m] ∧ ps = obj E.i_Boxes x [] :: R ∧ (0 ≤ m ∧ m ≤ 1000) ∧ Φ .non (boxC E.i_Boxes x (List.replicate m.toNat 0) [] :: R)
noncomputable def S_bneed (E : Env K mg) : SP := fun vs ps Φ => ∃ (x : Addr) (i : Int) (ns : List Int) (log : List Touch) (R : List HP), vs = [.ref x, .int i] ∧ Pick (boxC E.i_Boxes x ns log) ps R ∧ (0 ≤ i ∧ i < (ns.length : Int)) ∧ Φ .non (boxC E.i_Boxes x ns log :: R)
noncomputable def S_btake (E : Env K mg) : SP := fun vs ps Φ => ∃ (x : Addr) (i : Int) (ns : List Int) (log : List Touch) (R : List HP), vs = [.ref x, .int i] ∧ Pick (boxC E.i_Boxes x ns log) ps R ∧ (0 ≤ i ∧ i < (ns.length : Int)) ∧ log.length ≤ 900000 ∧ Φ (.int (ns.getD i.toNat 0)) (boxC E.i_Boxes x ns (log ++ [⟨true, i, ns.getD i.toNat 0⟩]) :: R)
noncomputable def S_bput (E : Env K mg) : SP := fun vs ps Φ => ∃ (x : Addr) (i n : Int) (ns : List Int) (log : List Touch) (R : List HP), vs = [.ref x, .int i, .int n] ∧ Pick (boxC E.i_Boxes x ns log) ps R ∧ (0 ≤ i ∧ i < (ns.length : Int)) ∧ log.length ≤ 900000 ∧ Φ .non (boxC E.i_Boxes x (ns.set i.toNat n) (log ++ [⟨false, i, n⟩]) :: R)
theorem z_binit {E : Env K mg} {R : List HP} {Φ : V → List HP → Prop} {x : Addr} {m : Int} (h : 0 ≤ m ∧ m ≤ 1000) (k : Φ .non (boxC E.i_Boxes x (List.replicate m.toNat 0) [] :: R)) : S_binit E [.ref x, .int m] (obj E.i_Boxes x [] :: R) Φ := ⟨x, m, R, rfl, rfl, h, k⟩
section
variable {E : Env K mg} {ps R : List HP} {Φ : V → List HP → Prop} {Ψ : Value → List HP → Prop} {x : Addr} {i n : Int} {ns : List Int} {log : List Touch}
theorem z_bneed (pk : Pick (boxC E.i_Boxes x ns log) ps R) (h : 0 ≤ i ∧ i < (ns.length : Int)) (k : Φ .non (boxC E.i_Boxes x ns log :: R)) : S_bneed E [.ref x, .int i] ps Φ := ⟨x, i, ns, log, R, rfl, pk, h, k⟩
theorem z_btake (pk : Pick (boxC E.i_Boxes x ns log) ps R) (h : 0 ≤ i ∧ i < (ns.length : Int)) (hl : log.length ≤ 900000) (k : Φ (.int (ns.getD i.toNat 0)) (boxC E.i_Boxes x ns (log ++ [⟨true, i, ns.getD i.toNat 0⟩]) :: R)) : S_btake E [.ref x, .int i] ps Φ := ⟨x, i, ns, log, R, rfl, pk, h, hl, k⟩
theorem z_bput (pk : Pick (boxC E.i_Boxes x ns log) ps R) (h : 0 ≤ i ∧ i < (ns.length : Int)) (hl : log.length ≤ 900000) (k : Φ .non (boxC E.i_Boxes x (ns.set i.toNat n) (log ++ [⟨false, i, n⟩]) :: R)) : S_bput E [.ref x, .int i, .int n] ps Φ := ⟨x, i, n, ns, log, R, rfl, pk, h, hl, k⟩
end
end
local macro_rules | `(tactic| ktf_call "step") => `(tactic| first
  | ((with_reducible refine' methBox ?w1 ?w2 ?w3 ?wd); (case w1 => ktf_call "mem"); (case w2 => exact rfl); (case w3 => decide +kernel))
  | ((with_reducible refine' fldG_box ?w1 fun _ _ _ _ => ?wd); (case w1 => ktf_call "pick"))
  | ((with_reducible refine' fldS_box ?w1 fun _ _ _ _ => ?wd); (case w1 => ktf_call "pick"))
  | ((with_reducible refine' z_bneed ?w1 ?w2 ?wd); (case w1 => ktf_call "pick"); (case w2 => first | assumption | ktf_call "lens")))
section
variable {P : Program} {w : World} {K : PySem.W.Frag} {mg : Str → Option Value} {base : Heap}
theorem ok_Boxes_init (E : Env K mg) : FnOk P w K mg base CX0 1 E.f_Boxes_init E.fd_Boxes_init ["self", "many"] (spS (S_binit E)) := by
  refine Bx.out ?_
  simp (disch := with_unfolding_all
      refine okS E.F_Boxes_init sc_Boxes_init (fun vs ps Φ h => ?_) (fun cdv A outer s H E0 hr => ?_)
      · obtain ⟨x, m, R, rfl, _⟩ := h; rfl
      · refine ⟨_, ((pss_cons (ps_fld (pv 0) (pv 1) rfl)
     (pss_cons (ps_fld (pv 0) (pe_op op_rep (pe_lst (pa_cons pe_int pa_nil)) (pv 1)) rfl)
     (pss_one (ps_fld (pv 0) (pe_lst pa_nil) rfl))))), fun vs ps Φ h => ?_⟩
        obtain ⟨x, m, R, rfl, rfl, hm, k⟩ := h
        try dsimp only [cxOf]
        show Ws _ _ _ _ _ [_, _] _
        ktf_call "go"
        rename_i _ q1 q2
        refine OutP.mk' ?_ k
        exact Ent.trans (by ktf_call "ent") (Ent.box0 (q1 := q1) (q2 := q2) (m := m) (by simp; omega))) only [↓Bx.tr]
theorem ok_Boxes_need (E : Env K mg) : FnOk P w K mg base CX0 1 E.f_Boxes_need E.fd_Boxes_need ["self", "place"] (spS (S_bneed E)) := by
  refine Bx.out ?_
  simp (disch := with_unfolding_all
      refine okS E.F_Boxes_need sc_Boxes_need (fun vs ps Φ h => ?_) (fun cdv A outer s H E0 hr => ?_)
      · obtain ⟨x, i, ns, log, R, rfl, _⟩ := h; rfl
      · refine ⟨_, ((pss_one (ps_if (pt_not (pt_chain op_le op_lt pe_int (pv 1) (pe_fld (pv 0) rfl))) (pss_one ps_never) pss_nil))), fun vs ps Φ h => ?_⟩
        obtain ⟨x, i, ns, log, R, rfl, pk, hi, k⟩ := h
        try dsimp only [cxOf]
        show Ws _ _ _ _ _ [_, _] _
        refine Ws.ent (Ent.perm pk.perm) (Ws.boxC fun q1 q2 as ha => ?_)
        ktf_call "go"
        refine iteD (fun _ => ?_) (fun z => absurd hi.1 z)
        ktf_call "go"
        refine iteND (fun z => absurd hi.2 z) (fun _ => ?_)
        ktf_call "go"
        exact OutP.mk' (Ent.boxC ha rfl) k) only [↓Bx.tr]
theorem ok_Boxes_take (E : Env K mg) : FnOk P w K mg base CX0 2 E.f_Boxes_take E.fd_Boxes_take ["self", "place"] (spS (S_btake E)) := by
  refine Bx.out ?_
  simp (disch := with_unfolding_all
      refine okS E.F_Boxes_take sc_Boxes_take (fun vs ps Φ h => ?_) (fun cdv A outer s H E0 hr => ?_)
      · obtain ⟨x, i, ns, log, R, rfl, _⟩ := h; rfl
      · refine ⟨_, ((pss_cons (ps_expr (pe_meth (pv 0) E.i_Boxes.cls E.m_Boxes_need (ok_Boxes_need E) (hr.mono (by decide)) E.b_Boxes_need .nil pass0 (pa_cons (pv 1) pa_nil)))
     (pss_cons (ps_expr (pe_bm PySem.F.plainAttrs_list PySem.F.slot_list_append PySem.F.type_list_append mt_append (pe_fld (pv 0) rfl) (pa_cons (pe_tup (pa_cons pe_str (pa_cons (pv 1) (pa_cons (pe_ix ix_list (pe_fld (pv 0) rfl) (pv 1) (fun _ _ => rfl)) pa_nil)))) pa_nil)))
     (pss_one (ps_ret (pe_ix ix_list (pe_fld (pv 0) rfl) (pv 1) (fun _ _ => rfl))))))), fun vs ps Φ h => ?_⟩
        obtain ⟨x, i, ns, log, R, rfl, pk, hi, hl, k⟩ := h
        try dsimp only [cxOf]
        show Ws _ _ _ _ _ [_, _] _
        refine Ws.ent (Ent.perm pk.perm) ?_
        ktf_call "go"
        rename_i q1 q2 as ha tt
        have hl2 : (as.map V.ref).length ≤ 900000 := by rw [List.length_map]; omega
        ktf_call "go"
        refine OutP.mk' (Ent.trans ?_ (Ent.box1 (q1 := q1) (q2 := q2) (as := as) (m := ns.length) (b := tt) (t := ⟨true, i, ns.getD i.toNat 0⟩) ha rfl)) k
        dsimp only [Touch.vals, Touch.word]
        ktf_call "ent") only [↓Bx.tr]
theorem ok_Boxes_put (E : Env K mg) : FnOk P w K mg base CX0 2 E.f_Boxes_put E.fd_Boxes_put ["self", "place", "number"] (spS (S_bput E)) := by
  refine Bx.out ?_
  simp (disch := with_unfolding_all
      refine okS E.F_Boxes_put sc_Boxes_put (fun vs ps Φ h => ?_) (fun cdv A outer s H E0 hr => ?_)
      · obtain ⟨x, i, n, ns, log, R, rfl, _⟩ := h; rfl
      · refine ⟨_, ((pss_cons (ps_expr (pe_meth (pv 0) E.i_Boxes.cls E.m_Boxes_need (ok_Boxes_need E) (hr.mono (by decide)) E.b_Boxes_need .nil pass0 (pa_cons (pv 1) pa_nil)))
     (pss_cons (ps_asg (pv 2) (pg_sub (pe_fld (pv 0) rfl) (pv 1) set_list))
     (pss_one (ps_expr (pe_bm PySem.F.plainAttrs_list PySem.F.slot_list_append PySem.F.type_list_append mt_append (pe_fld (pv 0) rfl) (pa_cons (pe_tup (pa_cons pe_str (pa_cons (pv 1) (pa_cons (pv 2) pa_nil)))) pa_nil))))))), fun vs ps Φ h => ?_⟩
        obtain ⟨x, i, n, ns, log, R, rfl, pk, hi, hl, k⟩ := h
        try dsimp only [cxOf]
        show Ws _ _ _ _ _ [_, _, _] _
        refine Ws.ent (Ent.perm pk.perm) ?_
        ktf_call "go"
        rename_i q1 q2 as ha tt
        have hl2 : (as.map V.ref).length ≤ 900000 := by rw [List.length_map]; omega
        ktf_call "go"
        refine OutP.mk' (Ent.trans ?_ (Ent.box1 (q1 := q1) (q2 := q2) (as := as) (m := ns.length) (b := tt) (t := ⟨false, i, n⟩) ha (by simp))) k
        dsimp only [Touch.vals, Touch.word]
        ktf_call "ent") only [↓Bx.tr]
end
end
section
local macro_rules | `(tactic| ktf_call "step") => `(tactic| first
  | ((with_reducible refine' methBox ?w1 ?w2 ?w3 ?wd); (case w1 => ktf_call "mem"); (case w2 => exact rfl); (case w3 => decide +kernel))
  | ((with_reducible refine' fldG_box ?w1 fun _ _ _ _ => ?wd); (case w1 => ktf_call "pick"))
  | ((with_reducible refine' fldS_box ?w1 fun _ _ _ _ => ?wd); (case w1 => ktf_call "pick"))
  | ((with_reducible refine' z_bneed ?w1 ?w2 ?wd); (case w1 => ktf_call "pick"); (case w2 => first | assumption | ktf_call "lens")))
section
local macro_rules | `(tactic| ktf_call "step") => `(tactic| first
  | ((with_reducible refine' meth_scanC ?w1 ?w2 ?w3 ?wd); (case w1 => ktf_call "mem"); (case w2 => exact rfl); (case w3 => decide +kernel))
  | ((with_reducible refine' fldG_scanC ?w1 fun _ _ _ _ => ?wd); (case w1 => ktf_call "pick"))
  | ((with_reducible refine' fldG_memC ?w1 fun _ _ _ _ => ?wd); (case w1 => ktf_call "pick"))
  | ((with_reducible refine' fldS_scanC ?w1 fun _ _ _ _ => ?wd); (case w1 => ktf_call "pick"))
  | ((with_reducible refine' fldS_memC ?w1 fun _ _ _ _ => ?wd); (case w1 => ktf_call "pick"))
  | ((with_reducible refine' z_btake ?w1 ?w2 ?w3 ?wd); (case w1 => ktf_call "pick"); (case w2 => first | assumption | ktf_call "lens"); (case w3 => first | assumption | ktf_call "lens"))
  | ((with_reducible refine' z_bput ?w1 ?w2 ?w3 ?wd); (case w1 => ktf_call "pick"); (case w2 => first | assumption | ktf_call "lens"); (case w3 => first | assumption | ktf_call "lens"))
  | ((with_reducible refine' dinMv ?w1 ?wd); (case w1 => ktf_call "mem"))
  | ((with_reducible refine' rdl_nats ?w1); (case w1 => ktf_call "rdl"))
  | ((with_reducible refine' w2_eqNats ?w1 ?w2 ?wd); (case w1 => ktf_call "rdl"); (case w2 => ktf_call "rdl")))
section
section
variable {P : Program} {w : World} {K : PySem.W.Frag} {mg : Str → Option Value} {base : Heap}
noncomputable abbrev hiE (E : Env K mg) : HI K := ⟨E.i_Boxes, E.i_Scan, E.i_Memory, E.i_One, E.i_Count, E.i_Look, E.i_Change, E.i_Give, E.i_Take, E.i_Done, E.i_Hall⟩
noncomputable def S_cellof : SP := fun vs ps Φ => ∃ n : Int, vs = [.int n] ∧ (n = 0 ∨ 2 ≤ (Mir.un n).length) ∧ (Mir.un n).length ≤ 1000 ∧ Φ (.int (Mir.cellOf n)) ps
theorem z_cellof {ps : List HP} {Φ : V → List HP → Prop} {n : Int} (h : n = 0 ∨ 2 ≤ (Mir.un n).length) (l : (Mir.un n).length ≤ 1000) (k : Φ (.int (Mir.cellOf n)) ps) : S_cellof [.int n] ps Φ := ⟨n, rfl, h, l, k⟩
theorem ok_cell_of (E : Env K mg) : FnOk P w K mg base CX0 2 E.f_cell_of E.fd_cell_of ["number"] (spS S_cellof) := by
  refine Bx.out ?_
  simp (disch := with_unfolding_all
      refine okS E.F_cell_of sc_cell_of (fun vs ps Φ h => ?_) (fun cdv A outer s H E0 hr => ?_)
      · obtain ⟨n, rfl, _⟩ := h; rfl
      · refine ⟨_, ((pss_cons (ps_if (pt_cmpR op_eq (pv 0) pe_int (nomark _)) (pss_one (ps_ret pe_int)) pss_nil)
     (pss_one (ps_ret (pe_ix ix_list (pe_call (ok_parted E) (hr.mono (by decide)) rfl E.g_parted E.k_parted E.b_parted .nil pass0 (pa_cons (pv 0) pa_nil)) pe_int (fun _ _ => rfl)))))), fun vs ps Φ h => ?_⟩
        obtain ⟨n, rfl, h2, hl, k⟩ := h
        try dsimp only [cxOf]
        show Ws _ _ _ _ _ [_] _
        ktf_call "go"
        refine iteD (fun e => ?_) (fun e => ?_)
        · ktf_call "go"
          have e2 : Mir.cellOf n = 0 := if_pos e
          rw [e2] at k
          exact .here k
        · ktf_call "go"
          refine z_parted hl fun p => ?_
          have h3 : 2 ≤ (Mir.un n).length := h2.resolve_left e
          ktf_call "go"
          have e2 : Mir.cellOf n = (Mir.un n).getD 1 0 := if_neg e
          rw [e2] at k
          exact OutP.mk' Ent.drop k) only [↓Bx.tr]
noncomputable def S_scaninit (E : Env K mg) : SP := fun vs ps Φ => ∃ (x : Addr) (first many : Nat) (R : List HP), vs = [.ref x, .int first, .int many] ∧ ps = obj E.i_Scan x [] :: R ∧ Φ .non (scanC E.i_Scan x first many .new :: R)
theorem z_scaninit {E : Env K mg} {R : List HP} {Φ : V → List HP → Prop} {x : Addr} {first many : Nat} (k : Φ .non (scanC E.i_Scan x first many .new :: R)) : S_scaninit E [.ref x, .int first, .int many] (obj E.i_Scan x [] :: R) Φ := ⟨x, first, many, R, rfl, rfl, k⟩
theorem ok_Scan_init (E : Env K mg) : FnOk P w K mg base CX0 1 E.f_Scan_init E.fd_Scan_init ["self", "first", "many"] (spS (S_scaninit E)) := by
  refine Bx.out ?_
  simp (disch := with_unfolding_all
      refine okS E.F_Scan_init sc_Scan_init (fun vs ps Φ h => ?_) (fun cdv A outer s H E0 hr => ?_)
      · obtain ⟨x, first, many, R, rfl, _⟩ := h; rfl
      · refine ⟨_, ((pss_cons (ps_fld (pv 0) (pv 1) rfl)
     (pss_cons (ps_fld (pv 0) (pv 2) rfl)
     (pss_cons (ps_fld (pv 0) pe_non rfl)
     (pss_cons (ps_fld (pv 0) (pe_lst pa_nil) rfl)
     (pss_cons (ps_fld (pv 0) pe_dnewK rfl)
     (pss_cons (ps_fld (pv 0) pe_int rfl)
     (pss_cons (ps_fld (pv 0) pe_non rfl)
     (pss_one (ps_fld (pv 0) pe_int rfl)))))))))), fun vs ps Φ h => ?_⟩
        obtain ⟨x, first, many, R, rfl, rfl, k⟩ := h
        try dsimp only [cxOf]
        show Ws _ _ _ _ _ [_, _, _] _
        ktf_call "go"
        rename_i q1 q2
        refine OutP.mk' (Ent.trans ?_ (ent_scanNew (q1 := q1) (q2 := q2))) k
        ktf_call "ent") only [↓Bx.tr]
noncomputable def S_looked (E : Env K mg) : SP := fun vs ps Φ => ∃ (x l : Addr) (first many : Nat) (s : Mir.ScanS) (ah : List Int) (lent : Mir.Lent) (R : List HP), vs = [.ref x, .ref l] ∧ Ent ps (scanC E.i_Scan x first many s :: pt l (.dT (lentK lent)) :: R) ∧ many ≤ 100 ∧ s.row.length = many ∧ s.ahead = some ah ∧ ah.length = many ∧ s.moved.length ≤ 1000 ∧
  (∀ x ∈ s.row, (x = 0 ∨ 2 ≤ (Mir.un x).length) ∧ (Mir.un x).length ≤ 1000) ∧ (∀ k mv, Mir.firstMoved (Mir.changedF many s.row ah) s.moved = (some k, mv) → 3 ≤ (Mir.un (s.row.getD k 0)).length ∧ (lent.lookup (first + k, (Mir.un (s.row.getD k 0)).getD 0 0)).isSome = true) ∧
  Φ (.bl (Mir.lookedF first many lent ah s).2) (scanC E.i_Scan x first many (Mir.lookedF first many lent ah s).1 :: pt l (.dT (lentK lent)) :: R)
theorem firstMoved_go {k : Nat} {r mv : List Nat} (h : k ∉ mv) : Mir.firstMoved (k :: r) mv = Mir.firstMoved r (mv ++ [k]) := by simp only [Mir.firstMoved, if_neg h]
theorem firstMoved_hit {k : Nat} {r mv : List Nat} (h : k ∈ mv) : Mir.firstMoved (k :: r) mv = (some k, mv) := by simp only [Mir.firstMoved, if_pos h]
theorem ok_Scan_looked (E : Env K mg) : FnOk P w K mg base CX0 3 E.f_Scan_looked E.fd_Scan_looked ["self", "lent"] (spS (S_looked E)) := by
  refine Bx.out ?_
  simp (disch := with_unfolding_all
      refine okS E.F_Scan_looked sc_Scan_looked (fun vs ps Φ h => ?_) (fun cdv A outer s H E0 hr => ?_)
      · obtain ⟨x, l, first, many, s, ah, lent, R, rfl, _⟩ := h; rfl
      · have hu := hu_of hr
        refine ⟨_, ((pss_cons (ps_setLc (i := 2) (own := [("k", 3)]) (g := gName 3) (tt := (tTest (tOp _ (tOp (rIxL K) (tFld K _ "row") _) (tOp (rIxL K) (tFld K _ "ahead") _))))  (by rfl) sc_Scan_looked.nd rfl rfl (sw_true rfl rfl rfl (by decide +kernel)) (pi_range1 (by rfl) E.bn_range (pa_cons (pe_fld (pv 0) rfl) pa_nil)) (blkOk_by (own := [("k", 3)]) (N := n_Scan_looked) (sc := defScope s_Scan_looked) (by decide +kernel)) (fun _ _ _ _ _ => (pg_name (i := 3) sc_Scan_looked.nd rfl (by first | exact Or.inl rfl | exact Or.inr rfl))) (fun _ _ _ _ _ => (pts_one (pt_cmpR op_ne (pe_ix ix_list (pe_fld (pv 0) rfl) (pv 3) (fun _ _ => rfl)) (pe_ix ix_list (pe_fld (pv 0) rfl) (pv 3) (fun _ _ => rfl)) (nomark _)))) (fun _ _ _ _ _ => (pv 3)))
     (pss_cons (ps_if (pt_cmpR (op_eqD hr.units) (pv 2) (pe_lst pa_nil) (nomark _)) (pss_cons (ps_fld (pv 0) (pe_lc (own := [("number", 5)]) (g := gName 5) (tt := tYes)  (by rfl) sc_Scan_looked.nd (pi_list (pe_fld (pv 0) rfl)) (blkOk_by (own := [("number", 5)]) (N := n_Scan_looked) (sc := defScope s_Scan_looked) (by decide +kernel)) (fun _ _ _ _ _ => (pg_name (i := 5) sc_Scan_looked.nd rfl (by first | exact Or.inl rfl | exact Or.inr rfl))) (fun _ _ _ _ _ => pts_nil) (fun _ _ _ _ _ => (pe_call (ok_cell_of E) (hr.mono (by decide)) rfl E.g_cell_of E.k_cell_of E.b_cell_of .nil pass0 (pa_cons (pv 5) pa_nil)))) rfl)
     (pss_cons (ps_fld (pv 0) (pe_fld (pv 0) rfl) rfl)
     (pss_one (ps_ret pe_bl)))) pss_nil)
     (pss_cons (ps_for PassesOwn.never rfl (pi_list (pv 2)) (pg_name (i := 3) sc_Scan_looked.nd rfl (by first | exact Or.inl rfl | exact Or.inr rfl)) (pss_cons (ps_if (pt_cmp (pc_din hu (pv 3) (pe_fld (pv 0) rfl))) (pss_cons (ps_set (i := 4) sc_Scan_looked.nd rfl (by first | exact Or.inl rfl | exact Or.inr rfl) (pe_call (ok_parted E) (hr.mono (by decide)) rfl E.g_parted E.k_parted E.b_parted .nil pass0 (pa_cons (pe_ix ix_list (pe_fld (pv 0) rfl) (pv 3) (fun _ _ => rfl)) pa_nil)))
     (pss_cons (ps_fld (pv 0) (pe_slice sl_list (pv 4) (po_some pe_int) po_none) rfl)
     (pss_cons (ps_fld (pv 0) (pe_dget hu (pv 1) (pe_tup (pa_cons (pe_op op_add (pe_fld (pv 0) rfl) (pv 3)) (pa_cons (pe_ix ix_list (pv 4) pe_int (fun _ _ => rfl)) pa_nil))) (fun _ _ => rfl)) rfl)
     (pss_one (ps_ret pe_bl))))) pss_nil)
     (pss_one (ps_dput hu (pe_fld (pv 0) rfl) (pv 3) pe_bl rfl))))
     (pss_one (ps_ret pe_bl)))))), fun vs ps Φ h => ?_⟩
        obtain ⟨x, l, first, many, s, ah, lent, R, rfl, pk, hmany, hrow, hah, hal, hml, hc, hm, k⟩ := h
        obtain ⟨ahead, row, moved, upto, view, moment⟩ := s
        dsimp only at hrow hah hc hm hml
        subst hah
        try dsimp only [cxOf]
        show Ws _ _ _ _ _ [_, _, _, _, _, _] _
        refine Ws.ent pk (Ws.opn (opn_scanC .hd) fun z => ?_)
        obtain ⟨q1, q2, v1, v2⟩ := z
        dsimp only
        refine Ws.opn (opn_optS (by ktf_call "pick")) fun z => ?_
        obtain ⟨q3, rfl⟩ := z
        dsimp only
        ktf_call "go"
        refine we_lc (wi_R1 ?_)
        ktf_call "go"
        refine ⟨_, many, rfl, by omega, by omega, fun d i acc ps' => acc = natsV ((List.range i).filter fun k => row.getD k 0 ≠ ah.getD k 0) ∧ ps' = pt d (.lst acc) :: _, fun d => ⟨rfl, rfl⟩, fun _ _ _ _ _ _ => trivial, ?_, ?_⟩
        · rintro d i x ex acc ps' hi ⟨rfl, rfl⟩ ⟨rfl, rfl⟩
          replace hi : i < many := hi
          have el : ((List.range i).filter fun k => row.getD k 0 ≠ ah.getD k 0).length ≤ 1000 := Nat.le_trans (List.length_filter_le _ _) (by rw [List.length_range]; omega)
          have el2 : (natsV ((List.range i).filter fun k => row.getD k 0 ≠ ah.getD k 0)).length ≤ 1000 := by rw [natsV_len]; exact el
          have e0 : (0 : Int) + ((i : Nat) : Int) = (i : Int) := Int.zero_add _
          rw [e0]
          ktf_call "go"
          rw [Int.toNat_natCast]
          refine iteND (fun hne => ?_) (fun heq => ?_)
          · ktf_call "go"
            refine ⟨?_, rfl⟩
            rw [natsV_snoc, filter_range_succ, if_pos (by simpa using hne)]
          · refine ⟨?_, rfl⟩
            rw [filter_range_succ, if_neg (by simpa using heq), List.append_nil]
        rintro d acc ps' ⟨rfl, rfl⟩
        have ech : (List.range (srcR 0 many).n).filter (fun k => row.getD k 0 ≠ ah.getD k 0) = Mir.changedF many row ah := rfl
        rw [ech]
        have hmem : ∀ k ∈ Mir.changedF many row ah, k < many := fun k hk => List.mem_range.mp (List.mem_filter.mp hk).1
        have hlen : (Mir.changedF many row ah).length ≤ 1000 := Nat.le_trans (List.length_filter_le _ _) (by rw [List.length_range]; omega)
        unfold Mir.lookedF at k
        dsimp only at k
        generalize Mir.changedF many row ah = ch at hmem hlen hm k ⊢
        ktf_call "go"
        refine iteD (fun e => ?_) (fun e => ?_)
        · subst e
          ktf_call "go"
          refine we_lc (wi_L ?_)
          ktf_call "go"
          refine ⟨q1, _, rfl, by ktf_call "rdl", fun d i acc ps' => acc = ((row.take i).map Mir.cellOf).map V.int ∧ ps' = pt d (.lst acc) :: _, fun d => ⟨rfl, rfl⟩, ?_, ?_, ?_⟩
          · rintro d i acc ps' ⟨rfl, rfl⟩ _
            show RdL K _ q1 (row.map V.int)
            ktf_call "rdl"
          · rintro d i x ex acc ps' hi ⟨hx, rfl⟩ ⟨rfl, rfl⟩
            replace hi : i < row.length := by simpa [srcL] using hi
            rw [List.getElem?_map, List.getElem?_eq_getElem hi] at hx
            obtain rfl := Option.some.inj hx
            have hcx := hc row[i] (List.getElem_mem hi)
            have el2 : (((row.take i).map Mir.cellOf).map V.int).length ≤ 1000 := by simp; omega
            ktf_call "go"
            refine z_cellof hcx.1 hcx.2 ?_
            ktf_call "go"
            refine ⟨?_, rfl⟩
            rw [List.take_succ, List.getElem?_eq_getElem hi, List.map_append, List.map_append]
            rfl
          rintro d acc ps' ⟨rfl, rfl⟩
          have et : (row.take (srcL K q1 (row.map V.int)).n) = row := by simp [srcL]
          rw [et]
          ktf_call "go"
          dsimp only at k
          refine OutP.mk' ?_ k
          ktf_call "ent"
        · obtain ⟨c0, cr, hch⟩ : ∃ c0 cr, ch = c0 :: cr := by
            cases ch with
            | nil => exact absurd rfl e
            | cons c0 cr => exact ⟨c0, cr, rfl⟩
          have k2 : Φ (.bl (match Mir.firstMoved ch moved with
            | (some k, mv) => (({ ahead := some ah, row := row, moved := mv, upto := upto, view := some ((Mir.un (row.getD k 0)).drop 2), moment := Mir.lentF lent (first + k) ((Mir.un (row.getD k 0)).getD 0 0) } : Mir.ScanS), true)
            | (none, mv) => ({ ahead := some ah, row := row, moved := mv, upto := upto, view := view, moment := moment }, false)).2) (scanC E.i_Scan x first many (match Mir.firstMoved ch moved with
            | (some k, mv) => (({ ahead := some ah, row := row, moved := mv, upto := upto, view := some ((Mir.un (row.getD k 0)).drop 2), moment := Mir.lentF lent (first + k) ((Mir.un (row.getD k 0)).getD 0 0) } : Mir.ScanS), true)
            | (none, mv) => ({ ahead := some ah, row := row, moved := mv, upto := upto, view := view, moment := moment }, false)).1 :: pt l (.dT (lentK lent)) :: R) := by
            subst hch
            exact k
          clear k
          ktf_call "go"
          refine ws_for (wi_L ?_)
          ktf_call "go"
          refine ⟨d, _, rfl, by ktf_call "rdl", fun i σ ps' => ∃ v3 v4 v5 v6 mv, σ = [some (.ref x), some (.ref l), v3, v4, v5, v6] ∧ (Mir.firstMoved ch moved = Mir.firstMoved (ch.drop i) mv ∧ mv.length ≤ moved.length + i) ∧ Ent ps' (pt d (.lst (natsV ch)) :: obj E.i_Scan x [("first", .int first), ("many", .int many), ("ahead", .ref q3), ("row", .ref q1), ("moved", .ref q2), ("until", .int upto), ("view", v2), ("moment", .int moment)] :: pt q3 (.lst (ah.map V.int)) :: pt q1 (.lst (row.map V.int)) :: pt q2 (.dK (mvK mv)) :: optC v2 view :: pt l (.dT (lentK lent)) :: R), ⟨_, _, _, _, moved, rfl, ⟨rfl, by omega⟩, by ktf_call "ent"⟩, ?_, ?_, ?_⟩
          · rintro i σ ps' ⟨v3, v4, v5, v6, mv, rfl, _, e⟩ _
            exact RdL.ent e (by ktf_call "rdl")
          · rintro i y ex σ ps' hi ⟨hx, rfl⟩ ⟨v3, v4, v5, v6, mv, rfl, ⟨hf, hl2⟩, e2⟩
            replace hi : i < ch.length := by simpa [srcL, natsV_len] using hi
            rw [natsV_get (List.getElem?_eq_getElem hi)] at hx
            obtain rfl := Option.some.inj hx
            have hk := hmem ch[i] (List.getElem_mem hi)
            generalize ech : ch[i] = kk at hk
            have hd : ch.drop i = kk :: ch.drop (i + 1) := by rw [List.drop_eq_getElem_cons hi, ech]
            rw [hd] at hf
            refine Wg.ent e2 ?_
            ktf_call "go"
            refine iteD (fun hin => ?_) (fun hnin => ?_)
            · rw [firstMoved_hit hin] at hf
              rw [hf] at hm k2
              dsimp only at k2
              obtain ⟨h3, hls⟩ := hm kk mv rfl
              have hul : (Mir.un (row.getD kk 0)).length ≤ 1000 := by
                have := hc (row.getD kk 0) (by
                  have := getD_lt (xs := row) (i := kk) (d := 0) (by omega)
                  exact List.mem_of_getElem? this)
                exact this.2
              ktf_call "go"
              rw [Int.toNat_natCast]
              refine z_parted hul fun p => ?_
              ktf_call "go"
              refine wsl_L (by ktf_call "rdl") fun p2 => ?_
              have ec : cutV ((Mir.un (row.getD kk 0)).map V.int) (some 2) none = ((Mir.un (row.getD kk 0)).drop 2).map V.int := by
                rw [List.map_drop]; exact cutV_from _ 2
              rw [ec]
              ktf_call "go"
              refine dgetLent (l := lent) (p := first + kk) (n := (Mir.un (row.getD kk 0)).getD 0 0) (by ktf_call "mem") (by exact List.mem_cons_self) hls ?_
              ktf_call "go"
              refine OutP.mk' ?_ k2
              ktf_call "ent"
            · rw [firstMoved_go hnin] at hf
              ktf_call "go"
              refine dputMv hnin (by ktf_call "rep") (by omega) ?_
              refine ⟨_, _, _, _, mv ++ [kk], rfl, ⟨hf, by simp; omega⟩, by ktf_call "ent"⟩
          · rintro σ ps' ⟨v3, v4, v5, v6, mv, rfl, ⟨hf, hl2⟩, e2⟩
            have hn : ch.drop (srcL K d (natsV ch)).n = [] := List.drop_eq_nil_of_le (by simp [srcL, natsV_len])
            rw [hn] at hf
            have hf : Mir.firstMoved ch moved = (none, mv) := hf
            rw [hf] at k2
            dsimp only at k2
            refine Ws.ent e2 ?_
            ktf_call "go"
            refine OutP.mk' ?_ k2
            ktf_call "ent") only [↓Bx.tr]
end
end
section
local macro_rules | `(tactic| ktf_call "step") => `(tactic| first
  | ((with_reducible refine' z_cellof ?w1 ?w2 ?wd); (case w1 => assumption); (case w2 => assumption))
  | (with_reducible refine z_scaninit ?_))
section
section
variable {P : Program} {w : World} {K : PySem.W.Frag} {mg : Str → Option Value} {base : Heap}
theorem z_looked {E : Env K mg} {ps R : List HP} {Φ : V → List HP → Prop} {x l : Addr} {first many : Nat} {s : Mir.ScanS} {ah : List Int} {lent : Mir.Lent} (pk : Ent ps (scanC E.i_Scan x first many s :: pt l (.dT (lentK lent)) :: R)) (h1 : many ≤ 100) (h2 : s.row.length = many) (h3 : s.ahead = some ah) (h4 : ah.length = many) (h5 : s.moved.length ≤ 1000)
    (h6 : ∀ x ∈ s.row, (x = 0 ∨ 2 ≤ (Mir.un x).length) ∧ (Mir.un x).length ≤ 1000) (h7 : ∀ k mv, Mir.firstMoved (Mir.changedF many s.row ah) s.moved = (some k, mv) → 3 ≤ (Mir.un (s.row.getD k 0)).length ∧ (lent.lookup (first + k, (Mir.un (s.row.getD k 0)).getD 0 0)).isSome = true)
    (k : Φ (.bl (Mir.lookedF first many lent ah s).2) (scanC E.i_Scan x first many (Mir.lookedF first many lent ah s).1 :: pt l (.dT (lentK lent)) :: R)) : S_looked E [.ref x, .ref l] ps Φ := ⟨x, l, first, many, s, ah, lent, R, rfl, pk, h1, h2, h3, h4, h5, h6, h7, k⟩
noncomputable def S_scanstep (E : Env K mg) : SP := fun vs ps Φ => ∃ (x b l : Addr) (first many : Nat) (s : Mir.ScanS) (boxes : List Int) (log : List Touch) (lent : Mir.Lent) (clock : Nat) (R : List HP), vs = [.ref x, .ref b, .int clock, .ref l] ∧ Ent ps (scanC E.i_Scan x first many s :: boxC E.i_Boxes b boxes log :: pt l (.dT (lentK lent)) :: R) ∧ many ≤ 100 ∧ first + many ≤ boxes.length ∧ log.length ≤ 100000 ∧
  Mir.ScanOk first many lent (boxes.getD (first + s.row.length) 0) s ∧
  Φ (.bl (Mir.scanF first many (boxes.getD (first + s.row.length) 0) clock lent s).2) (scanC E.i_Scan x first many (Mir.scanF first many (boxes.getD (first + s.row.length) 0) clock lent s).1 :: boxC E.i_Boxes b boxes (log ++ [Mir.tkT boxes (first + s.row.length)]) :: pt l (.dT (lentK lent)) :: R)
theorem z_scanstep {E : Env K mg} {ps R : List HP} {Φ : V → List HP → Prop} {x b l : Addr} {first many : Nat} {s : Mir.ScanS} {boxes : List Int} {log : List Touch} {lent : Mir.Lent} {clock : Nat} (pk : Ent ps (scanC E.i_Scan x first many s :: boxC E.i_Boxes b boxes log :: pt l (.dT (lentK lent)) :: R)) (h1 : many ≤ 100) (h2 : first + many ≤ boxes.length) (h3 : log.length ≤ 100000) (h4 : Mir.ScanOk first many lent (boxes.getD (first + s.row.length) 0) s)
    (k : Φ (.bl (Mir.scanF first many (boxes.getD (first + s.row.length) 0) clock lent s).2) (scanC E.i_Scan x first many (Mir.scanF first many (boxes.getD (first + s.row.length) 0) clock lent s).1 :: boxC E.i_Boxes b boxes (log ++ [Mir.tkT boxes (first + s.row.length)]) :: pt l (.dT (lentK lent)) :: R)) : S_scanstep E [.ref x, .ref b, .int clock, .ref l] ps Φ := ⟨x, b, l, first, many, s, boxes, log, lent, clock, R, rfl, pk, h1, h2, h3, h4, k⟩
theorem ok_Scan_step (E : Env K mg) : FnOk P w K mg base CX0 4 E.f_Scan_step E.fd_Scan_step ["self", "boxes", "clock", "lent"] (spS (S_scanstep E)) := by
  refine Bx.out ?_
  simp (disch := with_unfolding_all
      refine okS E.F_Scan_step sc_Scan_step (fun vs ps Φ h => ?_) (fun cdv A outer s H E0 hr => ?_)
      · obtain ⟨x, b, l, first, many, s, boxes, log, lent, clock, R, rfl, _⟩ := h; rfl
      · refine ⟨_, ((pss_cons (ps_expr (pe_bm PySem.F.plainAttrs_list PySem.F.slot_list_append PySem.F.type_list_append mt_append (pe_fld (pv 0) rfl) (pa_cons (pe_meth (pv 1) E.i_Boxes.cls E.m_Boxes_take (ok_Boxes_take E) (hr.mono (by decide)) E.b_Boxes_take .nil pass0 (pa_cons (pe_op op_add (pe_fld (pv 0) rfl) (pe_callB cr_len (by rfl) E.bn_len (by decide +kernel) (pa_cons (pe_fld (pv 0) rfl) pa_nil))) pa_nil)) pa_nil)))
     (pss_cons (ps_if (pt_cmpR op_lt (pe_callB cr_len (by rfl) E.bn_len (by decide +kernel) (pa_cons (pe_fld (pv 0) rfl) pa_nil)) (pe_fld (pv 0) rfl) (nomark _)) (pss_one (ps_ret pe_bl)) pss_nil)
     (pss_cons (ps_if (PW.pt (pw_and (pt_cmp (pc_notN (pe_fld (pv 0) rfl))) (pw_and1 (pt_val (pe_meth (pv 0) E.i_Scan.cls E.m_Scan_looked (ok_Scan_looked E) (hr.mono (by decide)) E.b_Scan_looked .nil pass0 (pa_cons (pv 3) pa_nil)))))) (pss_one (ps_ret pe_bl)) pss_nil)
     (pss_cons (ps_fld (pv 0) (pe_fld (pv 0) rfl) rfl)
     (pss_cons (ps_fld (pv 0) (pe_lst pa_nil) rfl)
     (pss_cons (ps_fld (pv 0) (pv 2) rfl)
     (pss_one (ps_ret pe_bl))))))))), fun vs ps Φ h => ?_⟩
        obtain ⟨x, b, l, first, many, s, boxes, log, lent, clock, R, rfl, pk, hmany, hb, hlog, ⟨hrl, hml, hul, hok⟩, k⟩ := h
        obtain ⟨ahead, row, moved, upto, view, moment⟩ := s
        dsimp only at hrl hml hul hok k
        try dsimp only [cxOf]
        show Ws _ _ _ _ _ [_, _, _, _] _
        refine Ws.ent pk (Ws.opn (opn_scanC .hd) fun z => ?_)
        obtain ⟨q1, q2, v1, v2⟩ := z
        dsimp only
        ktf_call "go"
        have e1 : (first : Int) + ((row.map V.int).length : Int) = ((first + row.length : Nat) : Int) := by rw [List.length_map]; rfl
        rw [e1, Int.toNat_natCast]
        generalize hn : boxes.getD (first + row.length) 0 = n at hul hok k ⊢
        unfold Mir.scanF at k
        simp only [List.length_append, List.length_cons, List.length_nil] at k
        refine iteD (fun hlt => ?_) (fun hge => ?_)
        · simp only [List.length_map, List.length_append, List.length_cons, List.length_nil] at hlt
          rw [if_pos (by omega)] at k
          ktf_call "go"
          refine OutP.mk' ?_ k
          dsimp only [Mir.tkT]
          rw [hn]
          ktf_call "ent"
        · simp only [List.length_map, List.length_append, List.length_cons, List.length_nil] at hge
          rw [if_neg (by omega)] at k
          have hful : row.length + 1 = many := by omega
          have hel : (row ++ [n]).length = many := by simp [hful]
          cases ahead with
          | none =>
            dsimp only at k
            refine Ws.opn (opn_optZ (by ktf_call "pick")) fun z => ?_
            obtain ⟨_, rfl⟩ := z
            ktf_call "go"
            refine OutP.mk' ?_ k
            dsimp only [Mir.tkT]
            rw [hn]
            ktf_call "ent"
          | some ah =>
            obtain ⟨hal, hfm⟩ := hok ah rfl
            dsimp only at k
            refine Ws.opn (opn_optS (by ktf_call "pick")) fun z => ?_
            obtain ⟨q3, rfl⟩ := z
            dsimp only
            ktf_call "go"
            refine z_looked (s := ⟨some ah, row ++ [n], moved, upto, view, moment⟩) (by ktf_call "ent") hmany hel rfl hal hml hul (fun k mv z => hfm hful k mv z) ?_
            generalize Mir.lookedF first many lent ah ⟨some ah, row ++ [n], moved, upto, view, moment⟩ = r at k ⊢
            obtain ⟨s2, c⟩ := r
            ktf_call "go"
            cases c with
            | true =>
              dsimp only at k ⊢
              ktf_call "go"
              refine OutP.mk' ?_ k
              dsimp only [Mir.tkT]
              rw [hn]
              ktf_call "ent"
            | false =>
              dsimp only at k ⊢
              obtain ⟨ahead2, row2, moved2, upto2, view2, moment2⟩ := s2
              refine Ws.opn (opn_scanC .hd) fun z => ?_
              obtain ⟨q4, q5, v4, v5⟩ := z
              dsimp only at k ⊢
              ktf_call "go"
              refine OutP.mk' ?_ k
              dsimp only [Mir.tkT]
              rw [hn]
              ktf_call "ent") only [↓Bx.tr]
end
end
section
section
variable {P : Program} {w : World} {K : PySem.W.Frag} {mg : Str → Option Value} {base : Heap}
noncomputable def S_meminit (E : Env K mg) : SP := fun vs ps Φ => ∃ (x : Addr) (m : Nat) (R : List HP), vs = [.ref x, .int m] ∧ ps = obj E.i_Memory x [] :: R ∧ m ≤ 100 ∧ Φ .non (memC E.i_Memory x (.new m) :: R)
theorem z_meminit {E : Env K mg} {R : List HP} {Φ : V → List HP → Prop} {x : Addr} {m : Nat} (h : m ≤ 100) (k : Φ .non (memC E.i_Memory x (.new m) :: R)) : S_meminit E [.ref x, .int m] (obj E.i_Memory x [] :: R) Φ := ⟨x, m, R, rfl, rfl, h, k⟩
theorem ok_Memory_init (E : Env K mg) : FnOk P w K mg base CX0 1 E.f_Memory_init E.fd_Memory_init ["self", "many"] (spS (S_meminit E)) := by
  refine Bx.out ?_
  simp (disch := with_unfolding_all
      refine okS E.F_Memory_init sc_Memory_init (fun vs ps Φ h => ?_) (fun cdv A outer s H E0 hr => ?_)
      · obtain ⟨x, m, R, rfl, _⟩ := h; rfl
      · refine ⟨_, ((pss_cons (ps_fld (pv 0) pe_int rfl)
     (pss_cons (ps_fld (pv 0) (pe_disp (pps_cons pe_str pe_int (pps_cons pe_str pe_int (pps_cons pe_str pe_int pps_nil))) (by rfl) (by rfl) (fun z => by cases z) (by decide)) rfl)
     (pss_cons (ps_fld (pv 0) (pe_disp (pps_cons pe_str pe_int (pps_cons pe_str pe_int (pps_cons pe_str pe_int pps_nil))) (by rfl) (by rfl) (fun z => by cases z) (by decide)) rfl)
     (pss_cons (ps_fld (pv 0) (pe_lst pa_nil) rfl)
     (pss_one (ps_fld (pv 0) (pe_op op_rep (pe_lst (pa_cons pe_int pa_nil)) (pv 1)) rfl))))))), fun vs ps Φ h => ?_⟩
        obtain ⟨x, m, R, rfl, rfl, hm, k⟩ := h
        try dsimp only [cxOf]
        show Ws _ _ _ _ _ [_, _] _
        ktf_call "go"
        rename_i q1 q2 q3 q5 q4
        rw [Int.toNat_natCast]
        refine OutP.mk' (Ent.trans ?_ (ent_memNew (q1 := q1) (q2 := q2) (q3 := q3) (q4 := q4))) k
        ktf_call "ent") only [↓Bx.tr]
noncomputable def S_winit (K : PySem.W.Frag) : SP := fun vs ps Φ => ∃ (x dA mem : Addr) (hand first many : Nat) (names ex : List Str) (I : CI K names) (R : List HP), nmWork ++ ex = names ∧ vs = [.ref x, .ref dA, .int hand, .ref mem, .int first, .int many] ∧ ps = obj I x [] :: R ∧
  Φ .non (obj I x [("deed", .ref dA), ("hand", .int hand), ("memory", .ref mem), ("first", .int first), ("many", .int many), ("answer", .non), ("moment", .int 0), ("stamp", .int 0), ("giver", .int ((0 : Nat) : Int)), ("nth", .int 0)] :: R)
theorem z_winit {R : List HP} {Φ : V → List HP → Prop} {x dA mem : Addr} {hand first many : Nat} {names ex : List Str} {I : CI K names} (e : nmWork ++ ex = names) (k : Φ .non (obj I x [("deed", .ref dA), ("hand", .int hand), ("memory", .ref mem), ("first", .int first), ("many", .int many), ("answer", .non), ("moment", .int 0), ("stamp", .int 0), ("giver", .int ((0 : Nat) : Int)), ("nth", .int 0)] :: R)) : S_winit K [.ref x, .ref dA, .int hand, .ref mem, .int first, .int many] (obj I x [] :: R) Φ := ⟨x, dA, mem, hand, first, many, names, ex, I, R, e, rfl, rfl, k⟩
theorem ok_Work_init (E : Env K mg) : FnOk P w K mg base CX0 1 E.f_Work_init E.fd_Work_init ["self", "deed", "hand", "memory", "first", "many"] (spS (S_winit K)) := by
  refine Bx.out ?_
  simp (disch := with_unfolding_all
      refine okS E.F_Work_init sc_Work_init (fun vs ps Φ h => ?_) (fun cdv A outer s H E0 hr => ?_)
      · obtain ⟨x, dA, mem, hand, first, many, names, ex, I, R, _, rfl, _⟩ := h; rfl
      · refine ⟨_, ((pss_cons (ps_fld (pv 0) (pv 1) rfl)
     (pss_cons (ps_fld (pv 0) (pv 2) rfl)
     (pss_cons (ps_fld (pv 0) (pv 3) rfl)
     (pss_cons (ps_fld (pv 0) (pv 4) rfl)
     (pss_cons (ps_fld (pv 0) (pv 5) rfl)
     (pss_cons (ps_fld (pv 0) pe_non rfl)
     (pss_cons (ps_fld (pv 0) pe_int rfl)
     (pss_cons (ps_fld (pv 0) pe_int rfl)
     (pss_cons (ps_fld (pv 0) pe_int rfl)
     (pss_one (ps_fld (pv 0) pe_int rfl)))))))))))), fun vs ps Φ h => ?_⟩
        obtain ⟨x, dA, mem, hand, first, many, names, ex, I, R, rfl, rfl, rfl, k⟩ := h
        try dsimp only [cxOf]
        show Ws _ _ _ _ _ [_, _, _, _, _, _] _
        ktf_call "go"
        exact .here k) only [↓Bx.tr]
noncomputable def S_wmake (E : Env K mg) (c : Mir.WC) : SP := fun vs ps Φ => ∃ (x dA mem : Addr) (hand many : Nat) (d : Deed) (R : List HP), vs = [.ref x, .ref dA, .int hand, .ref mem, .int ((Mir.thing d * many : Nat) : Int), .int many] ∧ (Mir.wxNew d).cls = c ∧ (match c with
  | .one => ps = obj E.i_One x [] :: R | .count => ps = obj E.i_Count x [] :: R | .look => ps = obj E.i_Look x [] :: R | .change => ps = obj E.i_Change x [] :: R | .give => ps = obj E.i_Give x [] :: R | .take => ps = obj E.i_Take x [] :: R) ∧
  Φ .non (workC (hiE E) x dA mem many .non (Mir.workNew d hand) :: R)
theorem ok_Count_init (E : Env K mg) : FnOk P w K mg base CX0 2 E.f_Count_init E.fd_Count_init ["self", "deed", "hand", "memory", "first", "many"] (spS (S_wmake E .count)) := by
  refine Bx.out ?_
  simp (disch := with_unfolding_all
      refine okS E.F_Count_init sc_Count_init (fun vs ps Φ h => ?_) (fun cdv A outer s H E0 hr => ?_)
      · obtain ⟨x, dA, mem, hand, many, d, R, rfl, _⟩ := h; rfl
      · refine ⟨_, ((pss_cons (ps_expr (pe_clsfn (pe_glob (v := .ref E.i_Work.C) (by rfl) E.g_Work rfl) E.cr_Work E.cf_Work_init E.kk_Work_init (ok_Work_init E) (hr.mono (by decide)) E.b_Work_init pass0 (pa_cons (pv 0) (pa_cons (pv 1) (pa_cons (pv 2) (pa_cons (pv 3) (pa_cons (pv 4) (pa_cons (pv 5) pa_nil))))))))
     (pss_one (ps_fld (pv 0) (pe_lst pa_nil) rfl)))), fun vs ps Φ h => ?_⟩
        obtain ⟨x, dA, mem, hand, many, d, R, rfl, hc, rfl, k⟩ := h
        try dsimp only [cxOf]
        show Ws _ _ _ _ _ [_, _, _, _, _, _] _
        ktf_call "go"
        refine z_winit (ex := ["row"]) rfl ?_
        ktf_call "go"
        obtain rfl := wx_count hc
        ·
          rw [show Mir.workNew Deed.count hand = ⟨.count, hand, .non, 0, 0, 0, 0, .count []⟩ from rfl, wc_count] at k
          refine OutP.mk' ?_ k
          refine' Ent.trans ?w1 ent_countC
          case w1 => ktf_call "ent") only [↓Bx.tr]
theorem ok_Give_init (E : Env K mg) : FnOk P w K mg base CX0 2 E.f_Give_init E.fd_Give_init ["self", "deed", "hand", "memory", "first", "many"] (spS (S_wmake E .give)) := by
  refine Bx.out ?_
  simp (disch := with_unfolding_all
      refine okS E.F_Give_init sc_Give_init (fun vs ps Φ h => ?_) (fun cdv A outer s H E0 hr => ?_)
      · obtain ⟨x, dA, mem, hand, many, d, R, rfl, _⟩ := h; rfl
      · refine ⟨_, ((pss_cons (ps_expr (pe_clsfn (pe_glob (v := .ref E.i_Work.C) (by rfl) E.g_Work rfl) E.cr_Work E.cf_Work_init E.kk_Work_init (ok_Work_init E) (hr.mono (by decide)) E.b_Work_init pass0 (pa_cons (pv 0) (pa_cons (pv 1) (pa_cons (pv 2) (pa_cons (pv 3) (pa_cons (pv 4) (pa_cons (pv 5) pa_nil))))))))
     (pss_one (ps_fld (pv 0) pe_int rfl)))), fun vs ps Φ h => ?_⟩
        obtain ⟨x, dA, mem, hand, many, d, R, rfl, hc, rfl, k⟩ := h
        try dsimp only [cxOf]
        show Ws _ _ _ _ _ [_, _, _, _, _, _] _
        ktf_call "go"
        refine z_winit (ex := ["read"]) rfl ?_
        ktf_call "go"
        obtain ⟨n, rfl⟩ := wx_give hc
        rw [show Mir.workNew (Deed.give n) hand = ⟨.give n, hand, .non, 0, 0, 0, 0, .give 0⟩ from rfl, wc_give] at k
        exact OutP.mk' ent_giveC k) only [↓Bx.tr]
theorem ok_Take_init (E : Env K mg) : FnOk P w K mg base CX0 2 E.f_Take_init E.fd_Take_init ["self", "deed", "hand", "memory", "first", "many"] (spS (S_wmake E .take)) := by
  refine Bx.out ?_
  simp (disch := with_unfolding_all
      refine okS E.F_Take_init sc_Take_init (fun vs ps Φ h => ?_) (fun cdv A outer s H E0 hr => ?_)
      · obtain ⟨x, dA, mem, hand, many, d, R, rfl, _⟩ := h; rfl
      · refine ⟨_, ((pss_cons (ps_expr (pe_clsfn (pe_glob (v := .ref E.i_Work.C) (by rfl) E.g_Work rfl) E.cr_Work E.cf_Work_init E.kk_Work_init (ok_Work_init E) (hr.mono (by decide)) E.b_Work_init pass0 (pa_cons (pv 0) (pa_cons (pv 1) (pa_cons (pv 2) (pa_cons (pv 3) (pa_cons (pv 4) (pa_cons (pv 5) pa_nil))))))))
     (pss_cons (ps_fld (pv 0) (pe_lst pa_nil) rfl)
     (pss_one (ps_fld (pv 0) pe_bl rfl))))), fun vs ps Φ h => ?_⟩
        obtain ⟨x, dA, mem, hand, many, d, R, rfl, hc, rfl, k⟩ := h
        try dsimp only [cxOf]
        show Ws _ _ _ _ _ [_, _, _, _, _, _] _
        ktf_call "go"
        refine z_winit (ex := ["rows", "again"]) rfl ?_
        ktf_call "go"
        rename_i q
        obtain rfl := wx_take hc
        rw [show Mir.workNew Deed.take hand = ⟨.take, hand, .non, 0, 0, 0, 0, .take [] false⟩ from rfl, wc_take] at k
        refine OutP.mk' ?_ k
        refine' Ent.trans ?w1 ((Ent.cons (ent_lists_nil (q := q))).trans ent_takeC)
        case w1 => ktf_call "ent") only [↓Bx.tr]
theorem ok_Look_init (E : Env K mg) : FnOk P w K mg base CX0 3 E.f_Look_init E.fd_Look_init ["self", "deed", "hand", "memory", "first", "many"] (spS (S_wmake E .look)) := by
  refine Bx.out ?_
  simp (disch := with_unfolding_all
      refine okS E.F_Look_init sc_Look_init (fun vs ps Φ h => ?_) (fun cdv A outer s H E0 hr => ?_)
      · obtain ⟨x, dA, mem, hand, many, d, R, rfl, _⟩ := h; rfl
      · refine ⟨_, ((pss_cons (ps_expr (pe_clsfn (pe_glob (v := .ref E.i_Work.C) (by rfl) E.g_Work rfl) E.cr_Work E.cf_Work_init E.kk_Work_init (ok_Work_init E) (hr.mono (by decide)) E.b_Work_init pass0 (pa_cons (pv 0) (pa_cons (pv 1) (pa_cons (pv 2) (pa_cons (pv 3) (pa_cons (pv 4) (pa_cons (pv 5) pa_nil))))))))
     (pss_one (ps_fld (pv 0) (pe_make E.mk_Scan (ok_Scan_init E) (hr.mono (by decide)) rfl E.g_Scan E.b_Scan_init .nil pass0 (pa_cons (pv 4) (pa_cons (pv 5) pa_nil))) rfl)))), fun vs ps Φ h => ?_⟩
        obtain ⟨x, dA, mem, hand, many, d, R, rfl, hc, rfl, k⟩ := h
        try dsimp only [cxOf]
        show Ws _ _ _ _ _ [_, _, _, _, _, _] _
        ktf_call "go"
        refine z_winit (ex := ["scan"]) rfl ?_
        ktf_call "go"
        intro sc
        refine z_scaninit ⟨rfl, ?_⟩
        ktf_call "go"
        have e : Mir.workNew d hand = ⟨d, hand, .non, 0, 0, 0, 0, .look .new⟩ := by unfold Mir.workNew; rw [wx_look hc]
        rw [e] at k
        refine OutP.mk' (Ent.trans (Ent.trans ?_ ent_scanWC) (ent_look (sc := sc))) k
        ktf_call "ent") only [↓Bx.tr]
theorem ok_Change_init (E : Env K mg) : FnOk P w K mg base CX0 3 E.f_Change_init E.fd_Change_init ["self", "deed", "hand", "memory", "first", "many"] (spS (S_wmake E .change)) := by
  refine Bx.out ?_
  simp (disch := with_unfolding_all
      refine okS E.F_Change_init sc_Change_init (fun vs ps Φ h => ?_) (fun cdv A outer s H E0 hr => ?_)
      · obtain ⟨x, dA, mem, hand, many, d, R, rfl, _⟩ := h; rfl
      · refine ⟨_, ((pss_cons (ps_expr (pe_clsfn (pe_glob (v := .ref E.i_Work.C) (by rfl) E.g_Work rfl) E.cr_Work E.cf_Work_init E.kk_Work_init (ok_Work_init E) (hr.mono (by decide)) E.b_Work_init pass0 (pa_cons (pv 0) (pa_cons (pv 1) (pa_cons (pv 2) (pa_cons (pv 3) (pa_cons (pv 4) (pa_cons (pv 5) pa_nil))))))))
     (pss_one (ps_fld (pv 0) (pe_make E.mk_Scan (ok_Scan_init E) (hr.mono (by decide)) rfl E.g_Scan E.b_Scan_init .nil pass0 (pa_cons (pv 4) (pa_cons (pv 5) pa_nil))) rfl)))), fun vs ps Φ h => ?_⟩
        obtain ⟨x, dA, mem, hand, many, d, R, rfl, hc, rfl, k⟩ := h
        try dsimp only [cxOf]
        show Ws _ _ _ _ _ [_, _, _, _, _, _] _
        ktf_call "go"
        refine z_winit (ex := ["scan"]) rfl ?_
        ktf_call "go"
        intro sc
        refine z_scaninit ⟨rfl, ?_⟩
        ktf_call "go"
        have e : Mir.workNew d hand = ⟨d, hand, .non, 0, 0, 0, 0, .change .new⟩ := by unfold Mir.workNew; rw [wx_change hc]
        rw [e] at k
        refine OutP.mk' (Ent.trans (Ent.trans ?_ ent_scanWC) (ent_change (sc := sc))) k
        ktf_call "ent") only [↓Bx.tr]
end
end
section
section
variable {P : Program} {w : World} {K : PySem.W.Frag} {mg : Str → Option Value} {base : Heap}
noncomputable def boxesT (boxes : List Int) (t : Touch) : List Int := if t.taken then boxes else boxes.set t.place.toNat t.number
noncomputable def S_wstep (E : Env K mg) (c : Mir.WC) : SP := fun vs ps Φ => ∃ (x dA mem b l : Addr) (av : V) (clock many : Nat) (boxes : List Int) (log : List Touch) (lent : Mir.Lent) (m : Mir.MemS) (w : Mir.WorkS) (R : List HP), vs = [.ref x, .ref b, .int clock, .ref l] ∧
  Ent ps (workC (hiE E) x dA mem many av w :: ansC av w.ans :: memC E.i_Memory mem m :: boxC E.i_Boxes b boxes log :: pt l (.dT (lentK lent)) :: R) ∧ RdT K R dA w.deed.vals ∧ w.x.cls = c ∧ (1 ≤ many ∧ many ≤ 100 ∧ w.hand < many ∧ boxes.length = 5 * many ∧ log.length ≤ 100000 ∧ lent.length ≤ 100000) ∧ Mir.StepOk many boxes lent m w ∧
  ∀ av', Φ (.bl (Mir.stepF many clock boxes lent m w).fin) (workC (hiE E) x dA mem many av' (Mir.stepF many clock boxes lent m w).work :: ansC av' (Mir.stepF many clock boxes lent m w).work.ans :: memC E.i_Memory mem (Mir.stepF many clock boxes lent m w).mem :: boxC E.i_Boxes b (boxesT boxes (Mir.stepF many clock boxes lent m w).touch) (log ++ [(Mir.stepF many clock boxes lent m w).touch]) :: pt l (.dT (lentK (Mir.stepF many clock boxes lent m w).lent)) :: R)
theorem ok_One_step (E : Env K mg) : FnOk P w K mg base CX0 3 E.f_One_step E.fd_One_step ["self", "boxes", "clock", "lent"] (spS (S_wstep E .one)) := by
  refine Bx.out ?_
  simp (disch := with_unfolding_all
      refine okS E.F_One_step sc_One_step (fun vs ps Φ h => ?_) (fun cdv A outer s H E0 hr => ?_)
      · obtain ⟨x, dA, mem, b, l, av, clock, many, boxes, log, lent, m, w, R, rfl, _⟩ := h; rfl
      · refine ⟨_, ((pss_cons (ps_fld (pe_fld (pv 0) rfl) (pe_op op_add (pe_fld (pe_fld (pv 0) rfl) rfl) pe_int) rfl)
     (pss_cons (ps_expr (pe_meth (pv 1) E.i_Boxes.cls E.m_Boxes_put (ok_Boxes_put E) (hr.mono (by decide)) E.b_Boxes_put .nil pass0 (pa_cons (pe_op op_add (pe_fld (pv 0) rfl) (pe_fld (pv 0) rfl)) (pa_cons (pe_fld (pe_fld (pv 0) rfl) rfl) pa_nil))))
     (pss_cons (ps_fld (pv 0) (pv 2) rfl)
     (pss_one (ps_ret pe_bl)))))), fun vs ps Φ h => ?_⟩
        obtain ⟨x, dA, mem, b, l, av, clock, many, boxes, log, lent, m, w, R, rfl, pk, rd, hc, ⟨h1, h2, h3, h4, h5, h6⟩, hok, k⟩ := h
        obtain ⟨deed, hand, ans, mo, st, giver, nth, xx⟩ := w
        obtain ⟨ones, pS, pA, pR, cS, cA, cR, gifts, took⟩ := m
        obtain rfl := cls_one hc
        have hf := thing_in (d := deed) (many := many)
        simp only [Mir.stepF, wc_one] at k pk
        dsimp only at h3 rd
        try dsimp only [cxOf]
        show Ws _ _ _ _ _ [_, _, _, _] _
        generalize Mir.thing deed * many = first at *
        refine Ws.ent pk (Ws.opn (opn_oneC .hd) fun z => ?_)
        ktf_call "go"
        refine OutP.mk' ?_ (k av)
        dsimp only [boxesT, Mir.ptT]
        rw [if_neg Bool.false_ne_true]
        ktf_call "ent") only [↓Bx.tr]
theorem ok_Count_step (E : Env K mg) : FnOk P w K mg base CX0 3 E.f_Count_step E.fd_Count_step ["self", "boxes", "clock", "lent"] (spS (S_wstep E .count)) := by
  refine Bx.out ?_
  simp (disch := with_unfolding_all
      refine okS E.F_Count_step sc_Count_step (fun vs ps Φ h => ?_) (fun cdv A outer s H E0 hr => ?_)
      · obtain ⟨x, dA, mem, b, l, av, clock, many, boxes, log, lent, m, w, R, rfl, _⟩ := h; rfl
      · refine ⟨_, ((pss_cons (ps_expr (pe_bm PySem.F.plainAttrs_list PySem.F.slot_list_append PySem.F.type_list_append mt_append (pe_fld (pv 0) rfl) (pa_cons (pe_meth (pv 1) E.i_Boxes.cls E.m_Boxes_take (ok_Boxes_take E) (hr.mono (by decide)) E.b_Boxes_take .nil pass0 (pa_cons (pe_op op_add (pe_fld (pv 0) rfl) (pe_callB cr_len (by rfl) E.bn_len (by decide +kernel) (pa_cons (pe_fld (pv 0) rfl) pa_nil))) pa_nil)) pa_nil)))
     (pss_cons (ps_fld (pv 0) (pe_callB (cr_sum rfl) (by rfl) E.bn_sum (by decide +kernel) (pa_cons (pe_fld (pv 0) rfl) pa_nil)) rfl)
     (pss_one (ps_ret (pe_cmpR op_eq (pe_callB cr_len (by rfl) E.bn_len (by decide +kernel) (pa_cons (pe_fld (pv 0) rfl) pa_nil)) (pe_fld (pv 0) rfl) (nomark _))))))), fun vs ps Φ h => ?_⟩
        obtain ⟨x, dA, mem, b, l, av, clock, many, boxes, log, lent, m, w, R, rfl, pk, rd, hc, ⟨h1, h2, h3, h4, h5, h6⟩, hok, k⟩ := h
        obtain ⟨deed, hand, ans, mo, st, giver, nth, xx⟩ := w
        obtain ⟨row, rfl⟩ := cls_count hc
        have hf := thing_in (d := deed) (many := many)
        have hrow : row.length < many := hok.2
        simp only [Mir.stepF, wc_count] at k pk
        dsimp only at h3 rd
        try dsimp only [cxOf]
        show Ws _ _ _ _ _ [_, _, _, _] _
        generalize Mir.thing deed * many = first at *
        refine Ws.ent pk (Ws.opn (opn_countC .hd) fun z => ?_)
        ktf_call "go"
        have e1 : (first : Int) + ((row.map V.int).length : Int) = ((first + row.length : Nat) : Int) := by rw [List.length_map]; rfl
        rw [e1, Int.toNat_natCast]
        have e2 : decide ((((row ++ [boxes.getD (first + row.length) 0]).map V.int).length : Int) = (many : Int)) = decide ((row ++ [boxes.getD (first + row.length) 0]).length = many) := by
          rw [List.length_map]
          exact decide_eq_decide.mpr (by omega)
        rw [e2]
        refine OutP.mk' ?_ (k (.int (row ++ [boxes.getD (first + row.length) 0]).sum))
        dsimp only [boxesT, Mir.tkT]
        rw [if_pos rfl]
        ktf_call "ent") only [↓Bx.tr]
end
end
section
local macro_rules | `(tactic| ktf_call "step") => `(tactic| first
  | ((with_reducible refine' w2_cat2I ?w1 ?w2 ?w3 fun _ => ?wd); (case w1 => ktf_call "mem"); (case w2 => ktf_call "mem"); (case w3 => ktf_call "lens"))
  | ((with_reducible refine' w2_catI2 ?w1 ?w2 ?w3 fun _ => ?wd); (case w1 => ktf_call "mem"); (case w2 => ktf_call "mem"); (case w3 => ktf_call "lens")))
section
section
variable {P : Program} {w : World} {K : PySem.W.Frag} {mg : Str → Option Value} {base : Heap}
theorem pk_eq : ∀ l : List Int, pk l = Mir.pkN l
  | [] => rfl
  | x :: r => by simp only [pk, Mir.pkN, pk_eq r]
theorem z_packed {ps : List HP} {Φ : V → List HP → Prop} {a : Addr} {row : List Int} (rd : RdL K ps a (row.map V.int)) (h : ∀ x ∈ row, Mir.inB x) (k : Φ (.int (Mir.pkN row)) ps) : S_packed K [.ref a] ps Φ := ⟨a, row, rfl, rd, h, by rw [pk_eq]; exact k⟩
theorem ok_Look_step (E : Env K mg) : FnOk P w K mg base CX0 5 E.f_Look_step E.fd_Look_step ["self", "boxes", "clock", "lent"] (spS (S_wstep E .look)) := by
  refine Bx.out ?_
  simp (disch := with_unfolding_all
      refine okS E.F_Look_step sc_Look_step (fun vs ps Φ h => ?_) (fun cdv A outer s H E0 hr => ?_)
      · obtain ⟨x, dA, mem, b, l, av, clock, many, boxes, log, lent, m, w, R, rfl, _⟩ := h; rfl
      · refine ⟨_, ((pss_cons (ps_if (pt_not (pt_val (pe_meth (pe_fld (pv 0) rfl) E.i_Scan.cls E.m_Scan_step (ok_Scan_step E) (hr.mono (by decide)) E.b_Scan_step .nil pass0 (pa_cons (pv 1) (pa_cons (pv 2) (pa_cons (pv 3) pa_nil)))))) (pss_one (ps_ret pe_bl)) pss_nil)
     (pss_cons (ps_fld (pv 0) (pe_fld (pe_fld (pv 0) rfl) rfl) rfl)
     (Evl.pss_cut (ps_if (pt_cmpR op_eq (pe_ix ix_tup (pe_fld (pv 0) rfl) pe_int (fun _ _ => rfl)) pe_str (nomark _)) (pss_one (ps_fld (pv 0) (pe_callB (cr_sum rfl) (by rfl) E.bn_sum (by decide +kernel) (pa_cons (pe_fld (pe_fld (pv 0) rfl) rfl) pa_nil)) rfl)) (pss_one (ps_if (pt_cmpR op_eq (pe_ix ix_tup (pe_fld (pv 0) rfl) pe_int (fun _ _ => rfl)) pe_str (nomark _)) (pss_one (ps_fld (pv 0) (pe_callB (cr_max rfl) (by rfl) E.bn_max (by decide +kernel) (pa_cons (pe_fld (pe_fld (pv 0) rfl) rfl) pa_nil)) rfl)) (pss_one (ps_fld (pv 0) (pe_callTy cr_tupOf (by rfl) E.bn_tuple (by decide +kernel) (pa_cons (pe_fld (pe_fld (pv 0) rfl) rfl) pa_nil)) rfl)))))
     (pss_one (ps_ret pe_bl)))))), fun vs ps Φ h => ?_⟩
        obtain ⟨x, dA, mem, b, l, av, clock, many, boxes, log, lent, m, w, R, rfl, pk, rd, hc, ⟨h1, h2, h3, h4, h5, h6⟩, hok, k⟩ := h
        obtain ⟨deed, hand, ans, mo, st, giver, nth, xx⟩ := w
        obtain ⟨s, rfl⟩ := cls_look hc
        have hf := thing_in (d := deed) (many := many)
        obtain ⟨hdd, hsok⟩ := hok
        simp only [Mir.stepF] at k
        dsimp only at h3 rd hdd hsok
        try dsimp only [cxOf]
        show Ws _ _ _ _ _ [_, _, _, _] _
        refine Ws.ent pk (Ws.opn opn_look fun sc => ?_)
        clear pk
        have fold : ∀ {R' : List HP} {s' : Mir.ScanS} {av2 : V} {an2 : Ans} {mo2 : Int}, Ent (scanWC E.i_Look x dA mem hand (Mir.thing deed * many) many av2 mo2 st giver nth sc :: scanC E.i_Scan sc (Mir.thing deed * many) many s' :: R') (workC (hiE E) x dA mem many av2 ⟨deed, hand, an2, mo2, st, giver, nth, .look s'⟩ :: R') := ent_look (I := hiE E)
        generalize Mir.thing deed * many = first at *
        have htr : ∀ s', Mir.scanF first many (boxes.getD (first + s.row.length) 0) clock lent s = (s', true) → ∃ v, s'.view = some v ∧ v ≠ [] := fun s' e => Mir.scanF_true e hsok
        refine Ws.opn (opn_scanWC .hd) fun _ => ?_
        ktf_call "go"
        refine z_scanstep (E := E) (by ktf_call "ent") h2 (by omega) h5 hsok ?_
        generalize Mir.scanF first many (boxes.getD (first + s.row.length) 0) clock lent s = r at k htr ⊢
        obtain ⟨s', c⟩ := r
        dsimp only at k ⊢
        ktf_call "go"
        cases c with
        | false =>
          dsimp only at k ⊢
          ktf_call "go"
          refine OutP.mk' ?_ (k av)
          refine' Ent.trans ?w1 fold
          case w1 => ktf_call "ent"
        | true =>
          dsimp only at k ⊢
          obtain ⟨v, hv, hne⟩ := htr s' rfl
          obtain ⟨ahead, row, moved, upto, view, moment⟩ := s'
          dsimp only at hv k
          subst hv
          have hvl : 0 < v.length := List.length_pos_iff.mpr hne
          refine Ws.ent (by ktf_call "ent") (Ws.opn (opn_scanC (R := obj E.i_Look x _ :: ansC av ans :: memC E.i_Memory mem m :: boxC E.i_Boxes b boxes _ :: pt l (.dT (lentK lent)) :: R) .hd) fun z => ?_)
          obtain ⟨q1, q2, v1, v2⟩ := z
          dsimp only at k ⊢
          refine Ws.opn (opn_optS (by ktf_call "pick")) fun z => ?_
          obtain ⟨q3, rfl⟩ := z
          dsimp only
          simp only [Option.getD_some] at k
          rcases hdd with rfl | rfl | rfl
          all_goals simp only [Deed.vals, Mir.lookAns] at rd k
          all_goals ktf_call "go"
          all_goals refine ws_plain ?_
          all_goals ktf_call "go"
          · rename_i pa
            refine OutP.mk' ?_ (k (.ref pa))
            dsimp only [boxesT, Mir.tkT]
            rw [if_pos rfl]
            refine' Ent.trans ?w1 fold
            case w1 => ktf_call "ent"
          · refine OutP.mk' ?_ (k (.int v.sum))
            dsimp only [boxesT, Mir.tkT]
            rw [if_pos rfl]
            refine' Ent.trans ?w1 fold
            case w1 => ktf_call "ent"
          · refine OutP.mk' ?_ (k (.int (topOf v)))
            dsimp only [boxesT, Mir.tkT]
            rw [if_pos rfl]
            refine' Ent.trans ?w1 fold
            case w1 => ktf_call "ent") only [↓Bx.tr]
end
end
section
section
variable {P : Program} {w : World} {K : PySem.W.Frag} {mg : Str → Option Value} {base : Heap}
theorem ok_Change_step (E : Env K mg) : FnOk P w K mg base CX0 5 E.f_Change_step E.fd_Change_step ["self", "boxes", "clock", "lent"] (spS (S_wstep E .change)) := by
  refine Bx.out ?_
  simp (disch := with_unfolding_all
      refine okS E.F_Change_step sc_Change_step (fun vs ps Φ h => ?_) (fun cdv A outer s H E0 hr => ?_)
      · obtain ⟨x, dA, mem, b, l, av, clock, many, boxes, log, lent, m, w, R, rfl, _⟩ := h; rfl
      · have hu := hu_of hr
        refine ⟨_, ((pss_cons (ps_if (pt_cmp (pc_isN (pe_fld (pe_fld (pv 0) rfl) rfl))) (pss_cons (ps_expr (pe_meth (pe_fld (pv 0) rfl) E.i_Scan.cls E.m_Scan_step (ok_Scan_step E) (hr.mono (by decide)) E.b_Scan_step .nil pass0 (pa_cons (pv 1) (pa_cons (pv 2) (pa_cons (pv 3) pa_nil)))))
     (pss_one (ps_ret pe_bl))) pss_nil)
     (pss_cons (ps_set (i := 4) sc_Change_step.nd rfl (by first | exact Or.inl rfl | exact Or.inr rfl) (pe_ix ix_tup (pe_fld (pv 0) rfl) pe_int (fun _ _ => rfl)))
     (pss_cons (ps_set (i := 5) sc_Change_step.nd rfl (by first | exact Or.inl rfl | exact Or.inr rfl) (pe_ix ix_tup (pe_fld (pv 0) rfl) pe_int (fun _ _ => rfl)))
     (Evl.pss_cut (ps_if (pt_cmpR op_eq (pv 4) pe_str (nomark _)) (pss_one (ps_set (i := 5) sc_Change_step.nd rfl (by first | exact Or.inl rfl | exact Or.inr rfl) (pe_op op_add (pv 5) (pe_dget hu (pe_fld (pe_fld (pv 0) rfl) rfl) (pv 4) (fun _ _ => rfl))))) pss_nil)
     (Evl.pss_cut (ps_if (pt_cmpR op_eq (pv 4) pe_str (nomark _)) (pss_one (ps_set (i := 5) sc_Change_step.nd rfl (by first | exact Or.inl rfl | exact Or.inr rfl) (pe_callB (cr_max2 rfl) (by rfl) E.bn_max (by decide +kernel) (pa_cons (pv 5) (pa_cons (pe_dget hu (pe_fld (pe_fld (pv 0) rfl) rfl) (pv 4) (fun _ _ => rfl)) pa_nil))))) pss_nil)
     (pss_cons (ps_dput hu (pe_fld (pe_fld (pv 0) rfl) rfl) (pv 4) (pv 5) rfl)
     (pss_cons (ps_dput hu (pe_fld (pe_fld (pv 0) rfl) rfl) (pv 4) (pe_op op_add (pe_dget hu (pe_fld (pe_fld (pv 0) rfl) rfl) (pv 4) (fun _ _ => rfl)) pe_int) rfl)
     (pss_cons (ps_set (i := 6) sc_Change_step.nd rfl (by first | exact Or.inl rfl | exact Or.inr rfl) (pe_op op_add (pe_fld (pv 0) rfl) (pe_fld (pv 0) rfl)))
     (pss_cons (ps_expr (pe_meth (pv 1) E.i_Boxes.cls E.m_Boxes_put (ok_Boxes_put E) (hr.mono (by decide)) E.b_Boxes_put .nil pass0 (pa_cons (pv 6) (pa_cons (pe_call (ok_packed E) (hr.mono (by decide)) rfl E.g_packed E.k_packed E.b_packed .nil pass0 (pa_cons (pe_op op_cat (pe_lst (pa_cons (pe_dget hu (pe_fld (pe_fld (pv 0) rfl) rfl) (pv 4) (fun _ _ => rfl)) (pa_cons (pv 5) pa_nil))) (pe_fld (pe_fld (pv 0) rfl) rfl)) pa_nil)) pa_nil))))
     (pss_cons (ps_dput hu (pv 3) (pe_tup (pa_cons (pv 6) (pa_cons (pe_dget hu (pe_fld (pe_fld (pv 0) rfl) rfl) (pv 4) (fun _ _ => rfl)) pa_nil))) (pe_fld (pe_fld (pv 0) rfl) rfl) rfl)
     (pss_cons (ps_fld (pv 0) (pv 2) rfl)
     (pss_one (ps_ret pe_bl)))))))))))))), fun vs ps Φ h => ?_⟩
        obtain ⟨x, dA, mem, b, l, av, clock, many, boxes, log, lent, m, w, R, rfl, pk, rd, hc, ⟨h1, h2, h3, h4, h5, h6⟩, hok, k⟩ := h
        obtain ⟨deed, hand, ans, mo, st, giver, nth, xx⟩ := w
        obtain ⟨s, rfl⟩ := cls_change hc
        have hf := thing_in (d := deed) (many := many)
        obtain ⟨hdd, hsok⟩ := hok
        simp only [Mir.stepF] at k
        dsimp only at h3 rd hdd hsok
        try dsimp only [cxOf]
        show Ws _ _ _ _ _ [_, _, _, _, _, _, _] _
        refine Ws.ent pk (Ws.opn opn_change fun sc => ?_)
        clear pk
        have fold : ∀ {R' : List HP} {s' : Mir.ScanS} {av2 : V} {an2 : Ans} {mo2 : Int}, Ent (scanWC E.i_Change x dA mem hand (Mir.thing deed * many) many av2 mo2 st giver nth sc :: scanC E.i_Scan sc (Mir.thing deed * many) many s' :: R') (workC (hiE E) x dA mem many av2 ⟨deed, hand, an2, mo2, st, giver, nth, .change s'⟩ :: R') := ent_change (I := hiE E)
        generalize Mir.thing deed * many = first at *
        refine Ws.opn (opn_scanWC .hd) fun _ => ?_
        cases hv : s.view with
        | none =>
          rw [hv] at hsok
          simp only [hv] at k
          dsimp only at hsok k
          have fold2 : Ent (scanC E.i_Scan sc first many s :: pt l (.dT (lentK lent)) :: R) (scanC E.i_Scan sc first many s :: pt l (.dT (lentK lent)) :: R) := Ent.rf
          obtain ⟨ahead, row, moved, upto, view, moment⟩ := s
          dsimp only at hv
          subst hv
          refine Ws.ent (ps' := scanC E.i_Scan sc first many ⟨ahead, row, moved, upto, none, moment⟩ :: obj E.i_Change x _ :: ansC av ans :: memC E.i_Memory mem m :: boxC E.i_Boxes b boxes log :: pt l (.dT (lentK lent)) :: R) (by ktf_call "ent") (Ws.opn (opn_scanC .hd) fun z => ?_)
          obtain ⟨q1, q2, v1, v2⟩ := z
          dsimp only at k ⊢
          refine Ws.opn (opn_optZ (v := v2) (by ktf_call "pick")) fun z => ?_
          obtain ⟨_, rfl⟩ := z
          ktf_call "go"
          refine z_scanstep (E := E) (s := ⟨ahead, row, moved, upto, none, moment⟩) (by ktf_call "ent") h2 (by omega) h5 hsok ?_
          ktf_call "go"
          refine OutP.mk' ?_ (k av)
          refine' Ent.trans ?w1 fold
          case w1 => ktf_call "ent"
        | some view =>
          rw [hv] at hsok
          simp only [hv] at k
          dsimp only at hsok k
          obtain ⟨ahead, row, moved, upto, view0, moment⟩ := s
          dsimp only at hv k
          subst hv
          obtain ⟨ones, pS, pA, pR, cS, cA, cR, gifts, took⟩ := m
          refine Ws.ent (ps' := scanC E.i_Scan sc first many ⟨ahead, row, moved, upto, some view, moment⟩ :: obj E.i_Change x _ :: ansC av ans :: memC E.i_Memory mem _ :: boxC E.i_Boxes b boxes log :: pt l (.dT (lentK lent)) :: R) (by ktf_call "ent") (Ws.opn (opn_scanC .hd) fun z => ?_)
          obtain ⟨q1, q2, v1, v2⟩ := z
          dsimp only at k ⊢
          refine Ws.opn (opn_optS (v := v2) (by ktf_call "pick")) fun z => ?_
          obtain ⟨q3, rfl⟩ := z
          dsimp only
          obtain ⟨hib, hvl, hln⟩ := hsok
          obtain ⟨n, hd⟩ := hdd
          rcases hd with rfl | rfl | rfl
          · simp only [Deed.vals, Mir.changeMem, List.cons_append, List.nil_append] at rd k hib hln
            ktf_call "go"
            refine ws_plain ?_
            ktf_call "go"
            refine ws_plain ?_
            ktf_call "go"
            refine z_packed (by ktf_call "rdl") hib ?_
            ktf_call "go"
            refine' dputLent (l := lent) (p := first + hand) hln (by exact List.mem_cons_self) ?u1 h6 ?z1
            case u1 => ktf_call "rep"
            ktf_call "go"
            refine OutP.mk' ?_ (k av)
            dsimp only [boxesT, Mir.ptT]
            rw [if_neg Bool.false_ne_true, Int.natCast_add]
            refine' Ent.trans ?y1 fold
            case y1 => ktf_call "ent"
          · simp only [Deed.vals, Mir.changeMem, List.cons_append, List.nil_append] at rd k hib hln
            ktf_call "go"
            refine ws_plain ?_
            ktf_call "go"
            refine ws_plain ?_
            ktf_call "go"
            refine z_packed (by ktf_call "rdl") hib ?_
            ktf_call "go"
            refine' dputLent (l := lent) (p := first + hand) hln (by exact List.mem_cons_self) ?u2 h6 ?z2
            case u2 => ktf_call "rep"
            ktf_call "go"
            refine OutP.mk' ?_ (k av)
            dsimp only [boxesT, Mir.ptT]
            rw [if_neg Bool.false_ne_true, Int.natCast_add]
            refine' Ent.trans ?y2 fold
            case y2 => ktf_call "ent"
          · simp only [Deed.vals, Mir.changeMem, List.cons_append, List.nil_append] at rd k hib hln
            ktf_call "go"
            refine ws_plain ?_
            ktf_call "go"
            refine ws_plain ?_
            ktf_call "go"
            refine z_packed (by ktf_call "rdl") hib ?_
            ktf_call "go"
            refine' dputLent (l := lent) (p := first + hand) hln (by exact List.mem_cons_self) ?u3 h6 ?z3
            case u3 => ktf_call "rep"
            ktf_call "go"
            refine OutP.mk' ?_ (k av)
            dsimp only [boxesT, Mir.ptT]
            rw [if_neg Bool.false_ne_true, Int.natCast_add]
            refine' Ent.trans ?y3 fold
            case y3 => ktf_call "ent") only [↓Bx.tr]
end
end
section
local macro_rules | `(tactic| ktf_call "step") => `(tactic| first
  | ((with_reducible refine' fldG_giveC ?w1 ?wd); (case w1 => ktf_call "pick"))
  | ((with_reducible refine' fldS_giveC ?w1 ?wd); (case w1 => ktf_call "pick")))
section
variable {P : Program} {w : World} {K : PySem.W.Frag} {mg : Str → Option Value} {base : Heap}
theorem ok_Give_step (E : Env K mg) : FnOk P w K mg base CX0 3 E.f_Give_step E.fd_Give_step ["self", "boxes", "clock", "lent"] (spS (S_wstep E .give)) := by
  refine Bx.out ?_
  simp (disch := with_unfolding_all
      refine okS E.F_Give_step sc_Give_step (fun vs ps Φ h => ?_) (fun cdv A outer s H E0 hr => ?_)
      · obtain ⟨x, dA, mem, b, l, av, clock, many, boxes, log, lent, m, w, R, rfl, _⟩ := h; rfl
      · refine ⟨_, ((pss_cons (ps_if (pt_cmpR op_lt (pe_fld (pv 0) rfl) (pe_fld (pv 0) rfl) (nomark _)) (pss_cons (ps_set (i := 4) sc_Give_step.nd rfl (by first | exact Or.inl rfl | exact Or.inr rfl) (pe_call (ok_parted E) (hr.mono (by decide)) rfl E.g_parted E.k_parted E.b_parted .nil pass0 (pa_cons (pe_meth (pv 1) E.i_Boxes.cls E.m_Boxes_take (ok_Boxes_take E) (hr.mono (by decide)) E.b_Boxes_take .nil pass0 (pa_cons (pe_op op_add (pe_fld (pv 0) rfl) (pe_fld (pv 0) rfl)) pa_nil)) pa_nil)))
     (pss_cons (ps_fld (pv 0) (pe_callB (cr_max rfl) (by rfl) E.bn_max (by decide +kernel) (pa_cons (pe_op op_cat (pe_lst (pa_cons (pe_fld (pv 0) rfl) pa_nil)) (pe_slice sl_list (pv 4) (po_some (pe_un un_neg pe_int)) (po_some (pe_un un_neg pe_int)))) pa_nil)) rfl)
     (pss_cons (ps_fld (pv 0) (pe_op op_add (pe_fld (pv 0) rfl) pe_int) rfl)
     (pss_one (ps_ret pe_bl))))) pss_nil)
     (pss_cons (ps_fld (pv 0) (pe_op op_add (pe_fld (pv 0) rfl) pe_int) rfl)
     (pss_cons (ps_fld (pe_fld (pv 0) rfl) (pe_op op_cat (pe_fld (pe_fld (pv 0) rfl) rfl) (pe_lst (pa_cons (pe_fld (pv 0) rfl) (pa_cons (pe_ix ix_tup (pe_fld (pv 0) rfl) pe_int (fun _ _ => rfl)) pa_nil)))) rfl)
     (pss_cons (ps_expr (pe_meth (pv 1) E.i_Boxes.cls E.m_Boxes_put (ok_Boxes_put E) (hr.mono (by decide)) E.b_Boxes_put .nil pass0 (pa_cons (pe_op op_add (pe_fld (pv 0) rfl) (pe_fld (pv 0) rfl)) (pa_cons (pe_call (ok_packed E) (hr.mono (by decide)) rfl E.g_packed E.k_packed E.b_packed .nil pass0 (pa_cons (pe_fld (pe_fld (pv 0) rfl) rfl) pa_nil)) pa_nil))))
     (pss_cons (ps_fld (pv 0) (pv 2) rfl)
     (pss_one (ps_ret pe_bl)))))))), fun vs ps Φ h => ?_⟩
        obtain ⟨x, dA, mem, b, l, av, clock, many, boxes, log, lent, m, w, R, rfl, pk, rd, hc, ⟨h1, h2, h3, h4, h5, h6⟩, hok, k⟩ := h
        obtain ⟨deed, hand, ans, mo, st, giver, nth, xx⟩ := w
        obtain ⟨read, rfl⟩ := cls_give hc
        obtain ⟨ones, pS, pA, pR, cS, cA, cR, gifts, took⟩ := m
        have hf := thing_in (d := deed) (many := many)
        obtain ⟨⟨n, rfl⟩, hul, hok⟩ := hok
        simp only [Mir.stepF, wc_give] at k pk
        dsimp only at h3 rd hul hok
        simp only [Deed.vals, Mir.giveN] at rd hok k
        try dsimp only [cxOf]
        show Ws _ _ _ _ _ [_, _, _, _, _] _
        generalize hfirst : Mir.thing (Deed.give n) * many = first at *
        refine Ws.ent pk (Ws.opn (opn_giveC .hd) fun _ => ?_)
        ktf_call "go"
        refine iteD (fun hlt => ?_) (fun hge => ?_)
        · have hr2 : read < many := by omega
          rw [if_pos hr2] at k
          simp only [wc_give, List.cons_append, List.nil_append, hfirst] at k
          ktf_call "go"
          have e1 : (first : Int) + (read : Int) = ((first + read : Nat) : Int) := rfl
          rw [e1, Int.toNat_natCast]
          refine z_parted (hul hr2) fun p => ?_
          ktf_call "go"
          refine wsl_L (by ktf_call "rdl") fun p2 => ?_
          have ec : cutV ((Mir.un (boxes.getD (first + read) 0)).map V.int) (some (-2)) (some (-1)) = (Mir.lastStamp (Mir.un (boxes.getD (first + read) 0))).map V.int := cutV_lasts _
          rw [ec]
          have hls : (Mir.lastStamp (Mir.un (boxes.getD (first + read) 0))).length ≤ 1 := by unfold Mir.lastStamp; split <;> simp
          ktf_call "go"
          refine wc_topI (by ktf_call "rdl") (by simp) ?_
          ktf_call "go"
          refine OutP.mk' ?_ (k av)
          dsimp only [boxesT, Mir.tkT]
          rw [if_pos rfl]
          refine' Ent.trans ?y1 ent_giveC
          case y1 =>
            rw [show ((read + 1 : Nat) : Int) = (read : Int) + 1 from rfl]
            ktf_call "ent"
        · have hr2 : ¬ read < many := by omega
          rw [if_neg hr2] at k
          simp only [wc_give, hfirst] at k
          obtain ⟨hib, hgl⟩ := hok (by omega)
          ktf_call "go"
          refine z_packed (by ktf_call "rdl") hib ?_
          ktf_call "go"
          refine OutP.mk' ?_ (k av)
          dsimp only [boxesT, Mir.ptT]
          rw [if_neg Bool.false_ne_true, Int.natCast_add]
          ktf_call "ent") only [↓Bx.tr]
end
end
section
theorem rdl_each {K : PySem.W.Frag} {ps : List HP} {as : List Addr} {rows : List (List Int)} {n k : Nat} (m : eachR n (fun i => pt (as.getD i 0) (.lst ((rows.getD i []).map V.int))) ∈ ps) (hk : k < n) : RdL K ps (as.getD k 0) ((rows.getD k []).map V.int) := RdL.ent (eachR_at m hk) (rdl_pt (List.mem_cons_self ..))
theorem opn_lists {q : Addr} {rows : List (List Int)} {ps R : List HP} (pk : Pick (listsC q rows) ps R) : Opn ps fun z : { as : List Addr // as.length = rows.length } => pt q (.lst (z.1.map V.ref)) :: eachR rows.length (fun i => pt (z.1.getD i 0) (.lst ((rows.getD i []).map V.int))) :: R := fun H s => open_lists pk s
section
variable {P : Program} {w : World} {K : PySem.W.Frag} {mg : Str → Option Value} {base : Heap}
noncomputable def S_rank (E : Env K mg) : SP := fun vs ps Φ => ∃ (x dA mem : Addr) (hand first many : Nat) (av : V) (mo st : Int) (gv : Nat) (nth : Int) (rows : List (List Int)) (again : Bool) (m : Mir.MemS) (R : List HP) (k : Nat), vs = [.ref x, .int k] ∧ Picks [takeC E.i_Take x dA mem hand first many av mo st gv nth rows again, memC E.i_Memory mem m] ps R ∧
  k < rows.length ∧ k < m.took.length ∧ 0 ≤ m.took.getD k 0 ∧ 2 * m.took.getD k 0 < ((rows.getD k []).length : Int) ∧ ∀ p, Φ (.ref p) (pt p (.tup [.int (Mir.rankF rows m.took k), .int k]) :: ps)
theorem ok_Take_rank (E : Env K mg) : FnOk P w K mg base CX0 1 E.f_Take_rank E.fd_Take_rank ["self", "k"] (spS (S_rank E)) := by
  refine Bx.out ?_
  simp (disch := with_unfolding_all
      refine okS E.F_Take_rank sc_Take_rank (fun vs ps Φ h => ?_) (fun cdv A outer s H E0 hr => ?_)
      · obtain ⟨x, dA, mem, hand, first, many, av, mo, st, gv, nth, rows, again, m, R, k, rfl, _⟩ := h; rfl
      · refine ⟨_, ((pss_one (ps_ret (pe_tup (pa_cons (pe_ix ix_list (pe_ix ix_list (pe_fld (pv 0) rfl) (pv 1) (fun _ _ => rfl)) (pe_op op_mul pe_int (pe_ix ix_list (pe_fld (pe_fld (pv 0) rfl) rfl) (pv 1) (fun _ _ => rfl))) (fun _ _ => rfl)) (pa_cons (pv 1) pa_nil)))))), fun vs ps Φ h => ?_⟩
        obtain ⟨x, dA, mem, hand, first, many, av, mo, st, gv, nth, rows, again, m, R, k, rfl, pk, h1, h2, h3, h4, kk⟩ := h
        try dsimp only [cxOf]
        show Ws _ _ _ _ _ [_, _] _
        refine Ws.ent (picks2 pk) (Ws.opn (opn_takeC .hd) fun q1 => Ws.opn (opn_lists (.tl .hd)) fun z => ?_)
        obtain ⟨as, has⟩ := z
        dsimp only
        refine Ws.opn (opn_memC (I := E.i_Memory) (a := mem) (m := m) (by ktf_call "pick")) fun z => ?_
        obtain ⟨p1, p2, p3, p4⟩ := z
        dsimp only
        ktf_call "go"
        refine' w2_ixRf (j := k) rfl ?x1 ?x2 ?x3
        case x1 => ktf_call "rdl"
        case x2 => omega
        ktf_call "go"
        rw [Int.toNat_natCast]
        have rd := fun ps' m => rdl_each (K := K) (ps := ps') (as := as) (rows := rows) m h1
        refine' w2_ixI (rd _ ?y1) ?y2 ?y3
        case y1 => ktf_call "mem"
        case y2 => exact ⟨by omega, h4⟩
        ktf_call "go"
        refine OutP.mk' ?_ (kk _)
        refine Ent.cons ?_
        refine' Ent.trans ?z1 (Ent.perm pk.perm.symm)
        case z1 =>
          show Ent _ (takeC E.i_Take x dA mem hand first many av mo st gv nth rows again :: memC E.i_Memory mem m :: R)
          refine' Ent.trans ?z2 (Ent.trans (ent_lists (q := q1) has) ?z3)
          case z2 => ktf_call "ent"
          refine' Ent.trans ?z4 (Ent.trans (ent_takeC (q1 := q1)) ?z5)
          case z4 => ktf_call "ent"
          ktf_call "ent") only [↓Bx.tr]
theorem leftF_mem {many : Nat} {rows : List (List Int)} {took : List Int} {k : Nat} : k ∈ Mir.leftF many rows took ↔ k < many ∧ 2 * took.getD k 0 < ((rows.getD k []).length : Int) := by
  unfold Mir.leftF
  rw [List.mem_filter, List.mem_range, decide_eq_true_iff]
theorem leastF_of {f : Nat → Int} : ∀ (r : List Nat) (k n : Nat), (k :: r).Pairwise (· < ·) → n ∈ k :: r → (∀ m ∈ k :: r, ¬ MnM.ltP (f m, (m : Int)) (f n, (n : Int))) → Mir.leastF f k r = n
  | [], k, n, _, hn, _ => (List.mem_singleton.mp hn).symm
  | j :: r, k, n, hp, hn, hl => by
    unfold Mir.leastF
    have hkj : k < j := (List.pairwise_cons.mp hp).1 j (List.mem_cons_self ..)
    have hkr := (List.pairwise_cons.mp hp).1
    have hjr := (List.pairwise_cons.mp (List.pairwise_cons.mp hp).2).1
    have hrr := (List.pairwise_cons.mp (List.pairwise_cons.mp hp).2).2
    by_cases hb : f j < f k
    · rw [if_pos hb]
      refine leastF_of r j n (List.pairwise_cons.mpr ⟨hjr, hrr⟩) ?_ fun m hm => hl m (List.mem_cons_of_mem _ hm)
      rcases List.mem_cons.mp hn with rfl | hn
      · exact absurd (show MnM.ltP (f j, (j : Int)) (f n, (n : Int)) from .inl hb) (hl j (List.mem_cons_of_mem _ (List.mem_cons_self ..)))
      · exact hn
    · rw [if_neg hb]
      refine leastF_of r k n (List.pairwise_cons.mpr ⟨fun m hm => hkr m (List.mem_cons_of_mem _ hm), hrr⟩) ?_ fun m hm => hl m (by
        rcases List.mem_cons.mp hm with rfl | hm
        · exact List.mem_cons_self ..
        · exact List.mem_cons_of_mem _ (List.mem_cons_of_mem _ hm))
      rcases List.mem_cons.mp hn with rfl | hn
      · exact List.mem_cons_self ..
      · rcases List.mem_cons.mp hn with rfl | hn
        · exact absurd (show MnM.ltP (f k, (k : Int)) (f n, (n : Int)) by unfold MnM.ltP; dsimp only; omega) (hl k (List.mem_cons_self ..))
        · exact List.mem_cons_of_mem _ hn
theorem ok_Take_step (E : Env K mg) : FnOk P w K mg base CX0 3 E.f_Take_step E.fd_Take_step ["self", "boxes", "clock", "lent"] (spS (S_wstep E .take)) := by
  refine Bx.out ?_
  simp (disch := with_unfolding_all
      refine okS E.F_Take_step sc_Take_step (fun vs ps Φ h => ?_) (fun cdv A outer s H E0 hr => ?_)
      · obtain ⟨x, dA, mem, b, l, av, clock, many, boxes, log, lent, m, w, R, rfl, _⟩ := h; rfl
      · refine ⟨_, ((pss_cons (ps_expr (pe_bm PySem.F.plainAttrs_list PySem.F.slot_list_append PySem.F.type_list_append mt_append (pe_fld (pv 0) rfl) (pa_cons (pe_call (ok_parted E) (hr.mono (by decide)) rfl E.g_parted E.k_parted E.b_parted .nil pass0 (pa_cons (pe_meth (pv 1) E.i_Boxes.cls E.m_Boxes_take (ok_Boxes_take E) (hr.mono (by decide)) E.b_Boxes_take .nil pass0 (pa_cons (pe_op op_add (pe_fld (pv 0) rfl) (pe_callB cr_len (by rfl) E.bn_len (by decide +kernel) (pa_cons (pe_fld (pv 0) rfl) pa_nil))) pa_nil)) pa_nil)) pa_nil)))
     (pss_cons (ps_if (pt_cmpR op_lt (pe_callB cr_len (by rfl) E.bn_len (by decide +kernel) (pa_cons (pe_fld (pv 0) rfl) pa_nil)) (pe_fld (pv 0) rfl) (nomark _)) (pss_one (ps_ret pe_bl)) pss_nil)
     (pss_cons (ps_setLc (i := 4) (own := [("k", 5)]) (g := gName 5) (tt := (tTest (tOp _ (tCB (Sp.rLen K) (tCons (tOp (rIxL K) (tFld K _ "rows") _) tNil)) (tOp _ _ (tOp (rIxL K) (tFld K (tFld K _ "memory") "took") _)))))  (by rfl) sc_Take_step.nd rfl rfl (sw_true rfl rfl rfl (by decide +kernel)) (pi_range1 (by rfl) E.bn_range (pa_cons (pe_fld (pv 0) rfl) pa_nil)) (blkOk_by (own := [("k", 5)]) (N := n_Take_step) (sc := defScope s_Take_step) (by decide +kernel)) (fun _ _ _ _ _ => (pg_name (i := 5) sc_Take_step.nd rfl (by first | exact Or.inl rfl | exact Or.inr rfl))) (fun _ _ _ _ _ => (pts_one (pt_cmpR op_gt (pe_callB cr_len (by rfl) E.bn_len (by decide +kernel) (pa_cons (pe_ix ix_list (pe_fld (pv 0) rfl) (pv 5) (fun _ _ => rfl)) pa_nil)) (pe_op op_mul pe_int (pe_ix ix_list (pe_fld (pe_fld (pv 0) rfl) rfl) (pv 5) (fun _ _ => rfl))) (nomark _)))) (fun _ _ _ _ _ => (pv 5)))
     (pss_cons (ps_if (pt_cmpR (op_eqD hr.units) (pv 4) (pe_lst pa_nil) (nomark _)) (pss_one (ps_ret pe_bl)) pss_nil)
     (pss_cons (ps_if (pt_not (pt_val (pe_fld (pv 0) rfl))) (pss_cons (ps_fld (pv 0) pe_bl rfl)
     (pss_cons (ps_fld (pv 0) (pe_lst pa_nil) rfl)
     (pss_one (ps_ret pe_bl)))) pss_nil)
     (pss_cons (ps_fld (pv 0) (pe_callBK (MnM.cr_minM (kk := 1) (hr.mono (by decide)) (ok_Take_rank E) E.b_Take_rank) (by rfl) E.bn_min (by decide +kernel) (pa_cons (pv 4) pa_nil) (pk_cons (MnM.pe_bound (pv 0) E.i_Take.cls E.bm_Take_rank) pk_nil)) rfl)
     (pss_cons (ps_fld (pv 0) (pe_ix ix_list (pe_fld (pe_fld (pv 0) rfl) rfl) (pe_fld (pv 0) rfl) (fun _ _ => rfl)) rfl)
     (pss_cons (ps_fld (pv 0) (pe_ix ix_list (pe_ix ix_list (pe_fld (pv 0) rfl) (pe_fld (pv 0) rfl) (fun _ _ => rfl)) (pe_op op_add (pe_op op_mul pe_int (pe_fld (pv 0) rfl)) pe_int) (fun _ _ => rfl)) rfl)
     (pss_cons (ps_asg (pe_op op_add (pe_fld (pv 0) rfl) pe_int) (pg_sub (pe_fld (pe_fld (pv 0) rfl) rfl) (pe_fld (pv 0) rfl) set_list))
     (pss_cons (ps_fld (pv 0) (pv 2) rfl)
     (pss_one (ps_ret pe_bl))))))))))))), fun vs ps Φ h => ?_⟩
        obtain ⟨x, dA, mem, b, l, av, clock, many, boxes, log, lent, m, w, R, rfl, pk, rd, hc, ⟨h1, h2, h3, h4, h5, h6⟩, hok, k⟩ := h
        obtain ⟨deed, hand, ans, mo, st, giver, nth, xx⟩ := w
        obtain ⟨rows, again, rfl⟩ := cls_take hc
        have hf := thing_in (d := deed) (many := many)
        obtain ⟨hd, hrl, htl, ht0, hev⟩ := hok
        dsimp only at hd hrl htl ht0 hev h3
        simp only [wc_take] at pk
        try dsimp only [cxOf]
        show Ws _ _ _ _ _ [_, _, _, _, _, _] _
        generalize hfirst : Mir.thing deed * many = first at hf hev pk ⊢
        refine Ws.ent pk (Ws.opn (opn_takeC .hd) fun q1 => Ws.opn (opn_lists (.tl .hd)) fun z => ?_)
        clear pk
        obtain ⟨as, has⟩ := z
        dsimp only
        have hal : (as.map V.ref).length < sizeLine := by rw [List.length_map]; exact Nat.lt_of_le_of_lt (m := 1000) (by omega) (by decide)
        ktf_call "go"
        have e1 : (first : Int) + ((as.map V.ref).length : Int) = ((first + rows.length : Nat) : Int) := by rw [List.length_map, has]; rfl
        rw [e1, Int.toNat_natCast]
        have hul : (Mir.un (boxes.getD (first + rows.length) 0)).length ≤ 1000 := (hev _ (by simp)).2
        refine z_parted hul fun p => ?_
        generalize hun : Mir.un (boxes.getD (first + rows.length) 0) = u at hev hul ⊢
        generalize hnn : boxes.getD (first + rows.length) 0 = nn
        have hrl2 : (rows ++ [u]).length = rows.length + 1 := by simp
        ktf_call "go"
        have e2 : decide (((as.map V.ref ++ [V.ref p]).length : Int) < (many : Int)) = decide ((rows ++ [u]).length < many) := by
          rw [List.length_append, List.length_map, has, hrl2]
          exact decide_eq_decide.mpr (by simp; omega)
        rw [e2]
        refine iteD (fun hlt => ?_) (fun hge => ?_)
        · have hs : Mir.stepF many clock boxes lent m ⟨deed, hand, ans, mo, st, giver, nth, .take rows again⟩ = ⟨Mir.tkT boxes (first + rows.length), m, lent, ⟨deed, hand, ans, mo, st, giver, nth, .take (rows ++ [u]) again⟩, false⟩ := by
            unfold Mir.stepF
            dsimp only
            rw [hfirst, hun, if_pos hlt]
          rw [hs] at k
          ktf_call "go"
          refine OutP.mk' ?_ (k av)
          dsimp only [boxesT, Mir.tkT]
          rw [if_pos rfl, wc_take, hfirst, hnn]
          refine' Ent.trans ?a1 (Ent.trans (ent_lists_snoc has) ?a2)
          case a1 => ktf_call "ent"
          refine' Ent.trans ?a3 (Ent.trans (ent_takeC (q1 := q1)) ?a4)
          case a3 => ktf_call "ent"
          ktf_call "ent"
        · have hful : (rows ++ [u]).length = many := by omega
          refine Ws.ent (ps' := listsC q1 (rows ++ [u]) :: obj E.i_Take x [("deed", .ref dA), ("hand", .int hand), ("memory", .ref mem), ("first", .int first), ("many", .int many), ("answer", av), ("moment", .int mo), ("stamp", .int st), ("giver", .int giver), ("nth", .int nth), ("rows", .ref q1), ("again", .bl again)] :: ansC av ans :: memC E.i_Memory mem m :: boxC E.i_Boxes b boxes (log ++ [⟨true, ((first + rows.length : Nat) : Int), nn⟩]) :: pt l (.dT (lentK lent)) :: R) ?_ ?_
          · refine' Ent.trans ?b1 (Ent.trans (ent_lists_snoc has) ?b2)
            case b1 => ktf_call "ent"
            ktf_call "ent"
          generalize hrw : rows ++ [u] = rw' at hev hful hge ⊢
          clear e1 e2 hal has
          refine Ws.opn (opn_lists .hd) fun z => ?_
          obtain ⟨as2, has2⟩ := z
          dsimp only
          refine Ws.ent (ps' := memC E.i_Memory mem m :: _) (by ktf_call "ent") (Ws.opn (opn_memC .hd) fun z => ?_)
          obtain ⟨p1, p2, p3, p4⟩ := z
          dsimp only
          ktf_call "go"
          refine we_lc (wi_R1 ?_)
          ktf_call "go"
          refine ⟨_, many, rfl, by omega, by omega, fun d i acc ps' => acc = natsV ((List.range i).filter fun k => 2 * m.took.getD k 0 < ((rw'.getD k []).length : Int)) ∧ ps' = pt d (.lst acc) :: _, fun d => ⟨rfl, rfl⟩, fun _ _ _ _ _ _ => trivial, ?_, ?_⟩
          · rintro d i y ex acc ps' hi ⟨rfl, rfl⟩ ⟨rfl, rfl⟩
            replace hi : i < many := hi
            have el : ((List.range i).filter fun k => 2 * m.took.getD k 0 < ((rw'.getD k []).length : Int)).length ≤ 1000 := Nat.le_trans (List.length_filter_le _ _) (by rw [List.length_range]; omega)
            have el2 : (natsV ((List.range i).filter fun k => 2 * m.took.getD k 0 < ((rw'.getD k []).length : Int))).length ≤ 1000 := by rw [natsV_len]; exact el
            have e0 : (0 : Int) + ((i : Nat) : Int) = (i : Int) := Int.zero_add _
            rw [e0]
            ktf_call "go"
            refine' w2_ixRf (j := i) rfl ?x1 ?x2 ?x3
            case x1 => ktf_call "rdl"
            case x2 => omega
            ktf_call "go"
            refine' wc_lenL (rdl_each (as := as2) (rows := rw') (n := rw'.length) (k := i) ?x4 (by omega)) ?x5
            case x4 => ktf_call "mem"
            ktf_call "go"
            rw [List.length_map, Int.toNat_natCast]
            refine iteD (fun hy => ?_) (fun hn => ?_)
            · ktf_call "go"
              refine ⟨?_, rfl⟩
              rw [natsV_snoc, filter_range_succ, if_pos (by simpa using hy)]
            · refine ⟨?_, rfl⟩
              rw [filter_range_succ, if_neg (by simpa using hn), List.append_nil]
          rintro d acc ps' ⟨rfl, rfl⟩
          have ech : (List.range (srcR 0 many).n).filter (fun k => 2 * m.took.getD k 0 < ((rw'.getD k []).length : Int)) = Mir.leftF many rw' m.took := rfl
          rw [ech]
          have hmem : ∀ k ∈ Mir.leftF many rw' m.took, k < many ∧ 2 * m.took.getD k 0 < ((rw'.getD k []).length : Int) := fun k hk => leftF_mem.mp hk
          have hpw : (Mir.leftF many rw' m.took).Pairwise (· < ·) := List.pairwise_lt_range.filter _
          ktf_call "go"
          have close : ∀ {rws : List (List Int)} {asx : List Addr} {qx : Addr} {ag : Bool} {av2 : V} {mo2 st2 nth2 : Int} {gv2 : Nat} {R' : List HP}, asx.length = rws.length → Ent (obj E.i_Take x [("deed", .ref dA), ("hand", .int hand), ("memory", .ref mem), ("first", .int first), ("many", .int many), ("answer", av2), ("moment", .int mo2), ("stamp", .int st2), ("giver", .int gv2), ("nth", .int nth2), ("rows", .ref qx), ("again", .bl ag)] :: pt qx (.lst (asx.map V.ref)) :: eachR rws.length (fun i => pt (asx.getD i 0) (.lst ((rws.getD i []).map V.int))) :: R')
              (takeC E.i_Take x dA mem hand first many av2 mo2 st2 gv2 nth2 rws ag :: R') := fun h => (Ent.cons (ent_lists h)).trans ent_takeC
          cases hl : Mir.leftF many rw' m.took with
          | nil =>
            refine iteD (fun _ => ?_) (fun z => absurd rfl z)
            have hs : Mir.stepF many clock boxes lent m ⟨deed, hand, ans, mo, st, giver, nth, .take rows again⟩ = ⟨Mir.tkT boxes (first + rows.length), m, lent, ⟨deed, hand, ans, mo, st, giver, nth, .take rw' again⟩, true⟩ := by
              unfold Mir.stepF
              dsimp only
              rw [hfirst, hun, hrw, if_neg hge, hl]
            rw [hs] at k
            ktf_call "go"
            refine OutP.mk' ?_ (k av)
            dsimp only [boxesT, Mir.tkT]
            rw [if_pos rfl, wc_take, hfirst, hnn]
            refine' Ent.trans ?c1 (Ent.trans (close has2) ?c2)
            case c1 => ktf_call "ent"
            ktf_call "ent"
          | cons k0 r0 =>
            refine iteD (fun z => nomatch z) (fun _ => ?_)
            rw [hl] at hmem hpw
            ktf_call "go"
            cases hag : again with
            | false =>
              have hs : Mir.stepF many clock boxes lent m ⟨deed, hand, ans, mo, st, giver, nth, .take rows again⟩ = ⟨Mir.tkT boxes (first + rows.length), m, lent, ⟨deed, hand, ans, mo, st, giver, nth, .take [] true⟩, false⟩ := by
                unfold Mir.stepF
                dsimp only
                rw [hfirst, hun, hrw, if_neg hge, hl]
                dsimp only
                rw [if_pos hag]
              rw [hs] at k
              ktf_call "go"
              rename_i qn
              refine OutP.mk' ?_ (k av)
              dsimp only [boxesT, Mir.tkT]
              rw [if_pos rfl, wc_take, hfirst, hnn]
              refine' Ent.trans ?d1 (Ent.trans (Ent.cons (ent_lists_nil (q := qn))) (Ent.trans ent_takeC ?d2))
              case d1 => ktf_call "ent"
              ktf_call "ent"
            | true =>
              refine iteNT ?_
              refine ws_next ?_
              refine Ws.ent (ps' := takeC E.i_Take x dA mem hand first many av mo st giver nth rw' true :: memC E.i_Memory mem m :: pt d (.lst (natsV (k0 :: r0))) :: ansC av ans :: boxC E.i_Boxes b boxes (log ++ [⟨true, ((first + rows.length : Nat) : Int), nn⟩]) :: pt l (.dT (lentK lent)) :: R) ?_ ?_
              · refine' Ent.trans ?f1 (Ent.trans (close has2) ?f2)
                case f1 => ktf_call "ent"
                ktf_call "ent"
              clear has2 as2
              refine ws_seq (ws_fld (we_CKw ?_))
              ktf_call "go"
              refine we_bound ?_
              ktf_call "go"
              refine meth_takeC (by ktf_call "mem") rfl (by decide +kernel) ?_
              intro xa qm ex
              obtain rfl := V.ref.inj ex
              ktf_call "go"
              refine' wck_min (g := E.f_Take_rank) (b := x) (l := d) (ns := (k0 :: r0).map fun (n : Nat) => (n : Int)) (kf := fun n => (Mir.rankF rw' m.took n.toNat, n)) (S := S_rank E) .hd ?r1 (by simp) (fun n hn => ?r2) fun n hn hmin => ?r3
              case r1 => exact rdl_nats (by ktf_call "rdl")
              case r2 =>
                obtain ⟨kk, hk, rfl⟩ := List.mem_map.mp hn
                obtain ⟨c1, c2⟩ := hmem kk hk
                refine' ⟨x, dA, mem, hand, first, many, av, mo, st, giver, nth, rw', true, m, _, kk, rfl, ?s1, by omega, by omega, ?s2, c2, fun p => ⟨p, rfl, rfl⟩⟩
                case s1 => ktf_call "picks"
                case s2 => exact ht0 _ (List.mem_of_getElem? (getD_lt (d := 0) (by omega)))
              case r3 =>
                obtain ⟨kk, hk, rfl⟩ := List.mem_map.mp hn
                obtain ⟨c1, c2⟩ := hmem kk hk
                have hg : Mir.leastF (Mir.rankF rw' m.took) k0 r0 = kk := leastF_of r0 k0 kk hpw hk fun m' hm' => hmin (m' : Int) (List.mem_map.mpr ⟨m', hm', rfl⟩)
                have ht1 := ht0 _ (List.mem_of_getElem? (getD_lt (xs := m.took) (i := kk) (d := 0) (by omega)))
                have hev2 := hev (rw'.getD kk []) (List.mem_of_getElem? (getD_lt (d := []) (by omega)))
                have hs : Mir.stepF many clock boxes lent m ⟨deed, hand, ans, mo, st, giver, nth, .take rows again⟩ = ⟨Mir.tkT boxes (first + rows.length), { m with took := m.took.set kk (m.took.getD kk 0 + 1) }, lent,
                    ⟨deed, hand, .int ((rw'.getD kk []).getD (2 * m.took.getD kk 0 + 1).toNat 0), clock, st, kk, m.took.getD kk 0, .take rw' true⟩, true⟩ := by
                  unfold Mir.stepF
                  dsimp only
                  rw [hfirst, hun, hrw, if_neg hge, hl]
                  dsimp only
                  rw [if_neg (by rw [hag]; exact fun z => nomatch z), hg, hag]
                rw [hs] at k
                ktf_call "go"
                refine' fldS_takeC ?t1 fun qx => ?t2
                case t1 => ktf_call "pick"
                ktf_call "go"
                rw [Int.toNat_natCast]
                refine' W2.opn (opn_lists (q := qx) (rows := rw') ?t3) fun z => ?t4
                case t3 => ktf_call "pick"
                obtain ⟨as3, has3⟩ := z
                dsimp only
                ktf_call "go"
                refine' w2_ixRf (j := kk) rfl ?t5 ?t6 ?t7
                case t5 => ktf_call "rdl"
                case t6 => omega
                ktf_call "go"
                refine' w2_ixI (rdl_each (as := as3) (rows := rw') (n := rw'.length) (k := kk) ?u1 (by omega)) ?u2 ?u3
                case u1 => ktf_call "mem"
                case u2 => exact ⟨by omega, by omega⟩
                ktf_call "go"
                rw [Int.toNat_natCast]
                refine OutP.mk' ?_ (k (.int ((rw'.getD kk []).getD (2 * m.took.getD kk 0 + 1).toNat 0)))
                dsimp only [boxesT, Mir.tkT]
                rw [if_pos rfl, wc_take, hfirst, hnn]
                refine' Ent.trans ?v1 (Ent.trans (close has3) ?v2)
                case v1 => ktf_call "ent"
                ktf_call "ent") only [↓Bx.tr]
end
end
section
local macro_rules | `(tactic| ktf_call "step") => `(tactic| first
  | ((with_reducible refine' w2_ixD ?w1 ?wd); (case w1 => assumption)))
section
section
variable {P : Program} {w : World} {K : PySem.W.Frag} {mg : Str → Option Value} {base : Heap}
noncomputable def S_workof (E : Env K mg) : SP := fun vs ps Φ => ∃ (dA mem : Addr) (hand many : Nat) (d : Deed), vs = [.ref dA, .int hand, .ref mem, .int many] ∧ RdT K ps dA d.vals ∧ many ≤ 100 ∧ ∀ x, Φ (.ref x) (workC (hiE E) x dA mem many .non (Mir.workNew d hand) :: ps)
theorem z_workof {E : Env K mg} {ps : List HP} {Φ : V → List HP → Prop} {dA mem : Addr} {hand many : Nat} {d : Deed} (rd : RdT K ps dA d.vals) (h : many ≤ 100) (k : ∀ x, Φ (.ref x) (workC (hiE E) x dA mem many .non (Mir.workNew d hand) :: ps)) : S_workof E [.ref dA, .int hand, .ref mem, .int many] ps Φ := ⟨dA, mem, hand, many, d, rfl, rd, h, k⟩
theorem z_wmake {E : Env K mg} {c : Mir.WC} {ps R : List HP} {Φ : V → List HP → Prop} {x dA mem : Addr} {hand many : Nat} {d : Deed} {i : Int} (hi : i = ((Mir.thing d * many : Nat) : Int)) (hp : match c with
  | .one => ps = obj E.i_One x [] :: R | .count => ps = obj E.i_Count x [] :: R | .look => ps = obj E.i_Look x [] :: R | .change => ps = obj E.i_Change x [] :: R | .give => ps = obj E.i_Give x [] :: R | .take => ps = obj E.i_Take x [] :: R) (hc : (Mir.wxNew d).cls = c)
  (k : Φ .non (workC (hiE E) x dA mem many .non (Mir.workNew d hand) :: R)) : S_wmake E c [.ref x, .ref dA, .int hand, .ref mem, .int i, .int many] ps Φ := by
  subst hi
  exact ⟨x, dA, mem, hand, many, d, R, rfl, hc, hp, k⟩
theorem ok_work_of (E : Env K mg) : FnOk P E.ww K mg base CX0 5 E.f_work_of E.fd_work_of ["deed", "hand", "memory", "many"] (spS (S_workof E)) := by
  refine Bx.out ?_
  simp (disch := with_unfolding_all
      refine okS E.F_work_of sc_work_of (fun vs ps Φ h => ?_) (fun cdv A outer s H E0 hr => ?_)
      · obtain ⟨dA, mem, hand, many, d, rfl, _⟩ := h; rfl
      · have hu := hu_of hr
        refine ⟨_, ((pss_cons (ps_set (i := 4) sc_work_of.nd rfl (by first | exact Or.inl rfl | exact Or.inr rfl) (pe_op op_mul (pe_ix ix_kdict (pe_glob (v := .ref E.a_PLACES) (by rfl) E.g_PLACES rfl) (pe_ix ix_tup (pv 0) pe_int (fun _ _ => rfl)) (fun _ _ => rfl)) (pv 3)))
     (pss_cons (ps_if (pt_cmpR op_eq (pe_ix ix_tup (pv 0) pe_int (fun _ _ => rfl)) pe_str (nomark _)) (pss_one (ps_ret (pe_make E.mk_One (ok_Work_init E) (hr.mono (by decide)) rfl E.g_One E.b_Work_init .nil pass0 (pa_cons (pv 0) (pa_cons (pv 1) (pa_cons (pv 2) (pa_cons (pv 4) (pa_cons (pv 3) pa_nil)))))))) pss_nil)
     (pss_cons (ps_if (pt_cmpR op_eq (pe_ix ix_tup (pv 0) pe_int (fun _ _ => rfl)) pe_str (nomark _)) (pss_one (ps_ret (pe_make E.mk_Count (ok_Count_init E) (hr.mono (by decide)) rfl E.g_Count E.b_Count_init .nil pass0 (pa_cons (pv 0) (pa_cons (pv 1) (pa_cons (pv 2) (pa_cons (pv 4) (pa_cons (pv 3) pa_nil)))))))) pss_nil)
     (pss_cons (ps_if (pt_cmpR op_eq (pe_ix ix_tup (pv 0) pe_int (fun _ _ => rfl)) pe_str (nomark _)) (pss_one (ps_ret (pe_make E.mk_Give (ok_Give_init E) (hr.mono (by decide)) rfl E.g_Give E.b_Give_init .nil pass0 (pa_cons (pv 0) (pa_cons (pv 1) (pa_cons (pv 2) (pa_cons (pv 4) (pa_cons (pv 3) pa_nil)))))))) pss_nil)
     (pss_cons (ps_if (pt_cmpR op_eq (pe_ix ix_tup (pv 0) pe_int (fun _ _ => rfl)) pe_str (nomark _)) (pss_one (ps_ret (pe_make E.mk_Take (ok_Take_init E) (hr.mono (by decide)) rfl E.g_Take E.b_Take_init .nil pass0 (pa_cons (pv 0) (pa_cons (pv 1) (pa_cons (pv 2) (pa_cons (pv 4) (pa_cons (pv 3) pa_nil)))))))) pss_nil)
     (pss_cons (ps_if (pt_cmpR op_in_seq (pe_ix ix_tup (pv 0) pe_int (fun _ _ => rfl)) (pe_tup (pa_cons pe_str (pa_cons pe_str (pa_cons pe_str pa_nil)))) (by rfl)) (pss_one (ps_ret (pe_make E.mk_Look (ok_Look_init E) (hr.mono (by decide)) rfl E.g_Look E.b_Look_init .nil pass0 (pa_cons (pv 0) (pa_cons (pv 1) (pa_cons (pv 2) (pa_cons (pv 4) (pa_cons (pv 3) pa_nil)))))))) pss_nil)
     (pss_one (ps_ret (pe_make E.mk_Change (ok_Change_init E) (hr.mono (by decide)) rfl E.g_Change E.b_Change_init .nil pass0 (pa_cons (pv 0) (pa_cons (pv 1) (pa_cons (pv 2) (pa_cons (pv 4) (pa_cons (pv 3) pa_nil))))))))))))))), fun vs ps Φ h => ?_⟩
        obtain ⟨dA, mem, hand, many, d, rfl, rd, hm, k⟩ := h
        have p1 := E.d_PLACES_one
        have p2 := E.d_PLACES_count
        have p3 := E.d_PLACES_set
        have p4 := E.d_PLACES_look
        have p5 := E.d_PLACES_add
        have p6 := E.d_PLACES_sum
        have p7 := E.d_PLACES_raise
        have p8 := E.d_PLACES_top
        have p9 := E.d_PLACES_give
        have p10 := E.d_PLACES_take
        try dsimp only [cxOf]
        show Ws _ _ _ _ _ [_, _, _, _, _] _
        rcases d with _ | _ | n | _ | n | _ | n | _ | n | _
        all_goals simp only [Deed.vals] at rd
        all_goals ktf_call "go"
        · intro x
          have e0 : (0 : Int) * (many : Int) = ((0 * many : Nat) : Int) := (Int.natCast_mul 0 many).symm
          rw [e0]
          refine z_winit (ex := []) rfl ⟨rfl, ?_⟩
          ktf_call "go"
          rw [show Mir.workNew .one hand = ⟨.one, hand, .non, 0, 0, 0, 0, .one⟩ from rfl] at k
          have k2 := k x
          rw [wc_one] at k2
          exact OutP.mk' ent_oneC k2
        · intro x
          refine z_wmake (d := .count) (Int.natCast_mul _ _).symm rfl rfl ⟨rfl, ?_⟩
          ktf_call "go"
          exact OutP.mk' (by ktf_call "ent") (k x)
        · intro x
          refine z_wmake (d := .set n) (Int.natCast_mul _ _).symm rfl rfl ⟨rfl, ?_⟩
          ktf_call "go"
          exact OutP.mk' (by ktf_call "ent") (k x)
        · intro x
          refine z_wmake (d := .look) (Int.natCast_mul _ _).symm rfl rfl ⟨rfl, ?_⟩
          ktf_call "go"
          exact OutP.mk' (by ktf_call "ent") (k x)
        · intro x
          refine z_wmake (d := .add n) (Int.natCast_mul _ _).symm rfl rfl ⟨rfl, ?_⟩
          ktf_call "go"
          exact OutP.mk' (by ktf_call "ent") (k x)
        · intro x
          refine z_wmake (d := .sum) (Int.natCast_mul _ _).symm rfl rfl ⟨rfl, ?_⟩
          ktf_call "go"
          exact OutP.mk' (by ktf_call "ent") (k x)
        · intro x
          refine z_wmake (d := .raise n) (Int.natCast_mul _ _).symm rfl rfl ⟨rfl, ?_⟩
          ktf_call "go"
          exact OutP.mk' (by ktf_call "ent") (k x)
        · intro x
          refine z_wmake (d := .top) (Int.natCast_mul _ _).symm rfl rfl ⟨rfl, ?_⟩
          ktf_call "go"
          exact OutP.mk' (by ktf_call "ent") (k x)
        · intro x
          refine z_wmake (d := .give n) (Int.natCast_mul _ _).symm rfl rfl ⟨rfl, ?_⟩
          ktf_call "go"
          exact OutP.mk' (by ktf_call "ent") (k x)
        · intro x
          refine z_wmake (d := .take) (Int.natCast_mul _ _).symm rfl rfl ⟨rfl, ?_⟩
          ktf_call "go"
          exact OutP.mk' (by ktf_call "ent") (k x)) only [↓Bx.tr]
end
end
end
end
section
section
variable {P : Program} {w : World} {K : PySem.W.Frag} {mg : Str → Option Value} {base : Heap}
noncomputable def S_doneinit (E : Env K mg) : SP := fun vs ps Φ => ∃ (x wa : Addr) (b e : Nat) (R : List HP), vs = [.ref x, .ref wa, .int b, .int e] ∧ ps = obj E.i_Done x [] :: R ∧ Φ .non (obj E.i_Done x [("work", .ref wa), ("begin", .int b), ("end", .int e)] :: R)
theorem z_doneinit {E : Env K mg} {R : List HP} {Φ : V → List HP → Prop} {x wa : Addr} {b e : Nat} (k : Φ .non (obj E.i_Done x [("work", .ref wa), ("begin", .int b), ("end", .int e)] :: R)) : S_doneinit E [.ref x, .ref wa, .int b, .int e] (obj E.i_Done x [] :: R) Φ := ⟨x, wa, b, e, R, rfl, rfl, k⟩
theorem ok_Done_init (E : Env K mg) : FnOk P w K mg base CX0 1 E.f_Done_init E.fd_Done_init ["self", "work", "begin", "end"] (spS (S_doneinit E)) := by
  refine Bx.out ?_
  simp (disch := with_unfolding_all
      refine okS E.F_Done_init sc_Done_init (fun vs ps Φ h => ?_) (fun cdv A outer s H E0 hr => ?_)
      · obtain ⟨x, wa, b, e, R, rfl, _⟩ := h; rfl
      · refine ⟨_, ((pss_cons (ps_fld (pv 0) (pv 1) rfl)
     (pss_cons (ps_fld (pv 0) (pv 2) rfl)
     (pss_one (ps_fld (pv 0) (pv 3) rfl))))), fun vs ps Φ h => ?_⟩
        obtain ⟨x, wa, b, e, R, rfl, rfl, k⟩ := h
        try dsimp only [cxOf]
        show Ws _ _ _ _ _ [_, _, _, _] _
        ktf_call "go"
        exact .here k) only [↓Bx.tr]
noncomputable def S_needhand (K : PySem.W.Frag) : SP := fun vs ps Φ => ∃ (x : Addr) (m h : Nat), vs = [.ref x, .int h] ∧ RdF K ps x "many" (.int m) ∧ h < m ∧ Φ .non ps
theorem z_needhand {ps : List HP} {Φ : V → List HP → Prop} {x : Addr} {m h : Nat} (rd : RdF K ps x "many" (.int m)) (hh : h < m) (k : Φ .non ps) : S_needhand K [.ref x, .int h] ps Φ := ⟨x, m, h, rfl, rd, hh, k⟩
theorem ok_Hall_need_hand (E : Env K mg) : FnOk P w K mg base CX0 1 E.f_Hall_need_hand E.fd_Hall_need_hand ["self", "hand"] (spS (S_needhand K)) := by
  refine Bx.out ?_
  simp (disch := with_unfolding_all
      refine okS E.F_Hall_need_hand sc_Hall_need_hand (fun vs ps Φ h => ?_) (fun cdv A outer s H E0 hr => ?_)
      · obtain ⟨x, m, h, rfl, _⟩ := h; rfl
      · refine ⟨_, ((pss_one (ps_if (pt_not (pt_chain op_le op_lt pe_int (pv 1) (pe_fld (pv 0) rfl))) (pss_one ps_never) pss_nil))), fun vs ps Φ h => ?_⟩
        obtain ⟨x, m, h, rfl, rd, hh, k⟩ := h
        try dsimp only [cxOf]
        show Ws _ _ _ _ _ [_, _] _
        ktf_call "go"
        refine iteD (fun _ => ?_) (fun z => absurd (Int.natCast_nonneg h) z)
        ktf_call "go"
        refine fldG_ro rd ?_
        ktf_call "go"
        refine iteND (fun z => absurd (by omega) z) (fun _ => ?_)
        ktf_call "go"
        exact .here k) only [↓Bx.tr]
end
end
section
local macro_rules | `(tactic| ktf_call "step") => `(tactic| first
  | ((with_reducible refine' w2_ixD ?w1 ?wd); (case w1 => assumption)))
section
local macro_rules | `(tactic| ktf_call "rdf") => `(tactic| first | with_reducible assumption | ((with_reducible refine' rdf_obj ?w1 ?w2 ?w3); (case w1 => ktf_call "mem"); (case w2 => exact rfl); (case w3 => ktf_call "mem")))
local macro_rules | `(tactic| ktf_call "step") => `(tactic| first
  | ((with_reducible refine' z_needhand ?w1 ?w2 ?wd); (case w1 => ktf_call "rdf"); (case w2 => assumption)))
section
section
variable {P : Program} {w : World} {K : PySem.W.Frag} {mg : Str → Option Value} {base : Heap}
theorem wm_pop0R {ps ps' : List HP} {Φ : V → List HP → Prop} {a x : Addr} {l : List Addr} (m : Rep (pt a (.lst ((x :: l).map V.ref))) (pt a (.lst (l.map V.ref))) ps ps') (k : Φ (.ref x) ps') : Wm rPopAt (.ref a) [.int 0] ps Φ := wm_popAt (n := 0) m rfl rfl (by decide) k
theorem we_dispatch {E : Env K mg} {σ : L2.St} {ps : List HP} {Φ : V → List HP → Prop} {wa dA mem : Addr} {many : Nat} {av : V} {w : Mir.WorkS} {vs : List V} {te : TE} {tr : TA} (hte : ∀ Ψ : V → List HP → Prop, Ψ (.ref wa) ps → We te σ ps Ψ) (htr : ∀ Ψ : List V → List HP → Prop, Ψ vs ps → Wa tr σ ps Ψ)
    (hm : workC (hiE E) wa dA mem many av w ∈ ps) (hS : ∀ c, w.x.cls = c → S_wstep E c (.ref wa :: vs) ps Φ) :
    We (fun σ H Q => tMeth E.i_One.C "step" (Sp.spS (S_wstep E Mir.WC.one)) [] L2.E0 te tr σ H Q ∨ tMeth E.i_Count.C "step" (Sp.spS (S_wstep E Mir.WC.count)) [] L2.E0 te tr σ H Q ∨ tMeth E.i_Look.C "step" (Sp.spS (S_wstep E Mir.WC.look)) [] L2.E0 te tr σ H Q ∨
      tMeth E.i_Change.C "step" (Sp.spS (S_wstep E Mir.WC.change)) [] L2.E0 te tr σ H Q ∨ tMeth E.i_Give.C "step" (Sp.spS (S_wstep E Mir.WC.give)) [] L2.E0 te tr σ H Q ∨ tMeth E.i_Take.C "step" (Sp.spS (S_wstep E Mir.WC.take)) [] L2.E0 te tr σ H Q) σ ps Φ := by
  have key : ∀ c, w.x.cls = c → We (tMeth (WC.C (hiE E) c) "step" (Sp.spS (S_wstep E c)) [] L2.E0 te tr) σ ps Φ := fun c hc => by
    refine we_meth (hte _ ?_)
    have e : WC.C (hiE E) c = WC.C (hiE E) w.x.cls := by rw [hc]
    rw [e]
    exact meth_work hm (by decide +kernel) (htr _ (hS c hc))
  cases hc : w.x.cls with
  | one => exact We.or1 (key _ hc)
  | count => exact We.or2 (We.or1 (key _ hc))
  | look => exact We.or2 (We.or2 (We.or1 (key _ hc)))
  | change => exact We.or2 (We.or2 (We.or2 (We.or1 (key _ hc))))
  | give => exact We.or2 (We.or2 (We.or2 (We.or2 (We.or1 (key _ hc)))))
  | take => exact We.or2 (We.or2 (We.or2 (We.or2 (We.or2 (key _ hc)))))
noncomputable def S_hstep (E : Env K mg) : SP := fun vs ps Φ => ∃ (x : Addr) (L : Pool) (S : Mir.HallS) (h : Nat) (R : List HP), vs = [.ref x, .int h] ∧ Ent ps (hallC (hiE E) x L S :: tups L :: R) ∧ Mir.Wf S ∧ h < S.many ∧ Mir.StepOkH S h ∧
  ∀ L', (∀ y ∈ L, y ∈ L') → Φ (.bl (S.step h).2) (hallC (hiE E) x L' (S.step h).1 :: tups L' :: R)
theorem ok_Hall_step (E : Env K mg) : FnOk P E.ww K mg base CX0 6 E.f_Hall_step E.fd_Hall_step ["self", "hand"] (spS (S_hstep E)) := by
  refine Bx.out ?_
  simp (disch := with_unfolding_all
      refine okS E.F_Hall_step sc_Hall_step (fun vs ps Φ h => ?_) (fun cdv A outer s H E0 hr => ?_)
      · obtain ⟨x, L, S, h, R, rfl, _⟩ := h; rfl
      · have hu := hu_of hr
        refine ⟨_, ((pss_cons (ps_expr (pe_meth (pv 0) E.i_Hall.cls E.m_Hall_need_hand (ok_Hall_need_hand E) (hr.mono (by decide)) E.b_Hall_need_hand .nil pass0 (pa_cons (pv 1) pa_nil)))
     (pss_cons (ps_set (i := 2) sc_Hall_step.nd rfl (by first | exact Or.inl rfl | exact Or.inr rfl) (pe_callB cr_len (by rfl) E.bn_len (by decide +kernel) (pa_cons (pe_fld (pv 0) rfl) pa_nil)))
     (Evl.pss_cut (ps_if (pt_cmp (pc_isN (pe_ix ix_list (pe_fld (pv 0) rfl) (pv 1) (fun _ _ => rfl)))) (pss_cons (ps_if (pt_cmpR (op_eqD hr.units) (pe_ix ix_list (pe_fld (pv 0) rfl) (pv 1) (fun _ _ => rfl)) (pe_lst pa_nil) (nomark _)) (pss_one (ps_ret pe_bl)) pss_nil)
     (pss_cons (ps_set (i := 4) sc_Hall_step.nd rfl (by first | exact Or.inl rfl | exact Or.inr rfl) (pe_bm PySem.F.plainAttrs_list PySem.F.slot_list_pop PySem.F.type_list_pop mt_popAt (pe_ix ix_list (pe_fld (pv 0) rfl) (pv 1) (fun _ _ => rfl)) (pa_cons pe_int pa_nil)))
     (pss_cons (ps_asg (pe_call (ok_work_of E) (hr.mono (by decide)) rfl E.g_work_of E.k_work_of E.b_work_of .nil pass0 (pa_cons (pv 4) (pa_cons (pv 1) (pa_cons (pe_ix ix_list (pe_fld (pv 0) rfl) (pv 1) (fun _ _ => rfl)) (pa_cons (pe_fld (pv 0) rfl) pa_nil))))) (pg_sub (pe_fld (pv 0) rfl) (pv 1) set_list))
     (pss_cons (ps_asg (pv 2) (pg_sub (pe_fld (pv 0) rfl) (pv 1) set_list))
     (pss_one (ps_asg pe_int (pg_sub (pe_fld (pv 0) rfl) (pv 1) set_list))))))) pss_nil)
     (pss_cons (ps_set (i := 3) sc_Hall_step.nd rfl (by first | exact Or.inl rfl | exact Or.inr rfl) (pe_ix ix_list (pe_fld (pv 0) rfl) (pv 1) (fun _ _ => rfl)))
     (pss_cons (ps_expr (pe_bm PySem.F.plainAttrs_list PySem.F.slot_list_append PySem.F.type_list_append mt_append (pe_fld (pv 0) rfl) (pa_cons (pv 1) pa_nil)))
     (pss_cons (ps_asg (pe_op op_add (pe_ix ix_list (pe_fld (pv 0) rfl) (pv 1) (fun _ _ => rfl)) pe_int) (pg_sub (pe_fld (pv 0) rfl) (pv 1) set_list))
     (Evl.pss_cut (ps_if (pt_val (pe_or2 (pe_meth (pv 3) E.i_One.cls E.m_One_step (ok_One_step E) (hr.mono (by decide)) E.b_One_step .nil pass0 (pa_cons (pe_fld (pv 0) rfl) (pa_cons (pv 2) (pa_cons (pe_fld (pv 0) rfl) pa_nil)))) (pe_or2 (pe_meth (pv 3) E.i_Count.cls E.m_Count_step (ok_Count_step E) (hr.mono (by decide)) E.b_Count_step .nil pass0 (pa_cons (pe_fld (pv 0) rfl) (pa_cons (pv 2) (pa_cons (pe_fld (pv 0) rfl) pa_nil)))) (pe_or2 (pe_meth (pv 3) E.i_Look.cls E.m_Look_step (ok_Look_step E) (hr.mono (by decide)) E.b_Look_step .nil pass0 (pa_cons (pe_fld (pv 0) rfl) (pa_cons (pv 2) (pa_cons (pe_fld (pv 0) rfl) pa_nil)))) (pe_or2 (pe_meth (pv 3) E.i_Change.cls E.m_Change_step (ok_Change_step E) (hr.mono (by decide)) E.b_Change_step .nil pass0 (pa_cons (pe_fld (pv 0) rfl) (pa_cons (pv 2) (pa_cons (pe_fld (pv 0) rfl) pa_nil)))) (pe_or2 (pe_meth (pv 3) E.i_Give.cls E.m_Give_step (ok_Give_step E) (hr.mono (by decide)) E.b_Give_step .nil pass0 (pa_cons (pe_fld (pv 0) rfl) (pa_cons (pv 2) (pa_cons (pe_fld (pv 0) rfl) pa_nil)))) (pe_meth (pv 3) E.i_Take.cls E.m_Take_step (ok_Take_step E) (hr.mono (by decide)) E.b_Take_step .nil pass0 (pa_cons (pe_fld (pv 0) rfl) (pa_cons (pv 2) (pa_cons (pe_fld (pv 0) rfl) pa_nil)))))))))) (pss_cons (ps_expr (pe_bm PySem.F.plainAttrs_list PySem.F.slot_list_append PySem.F.type_list_append mt_append (pe_fld (pv 0) rfl) (pa_cons (pe_make E.mk_Done (ok_Done_init E) (hr.mono (by decide)) rfl E.g_Done E.b_Done_init .nil pass0 (pa_cons (pv 3) (pa_cons (pe_ix ix_list (pe_fld (pv 0) rfl) (pv 1) (fun _ _ => rfl)) (pa_cons (pv 2) pa_nil)))) pa_nil)))
     (pss_cons (ps_asg pe_non (pg_sub (pe_fld (pv 0) rfl) (pv 1) set_list))
     (pss_one (ps_asg pe_int (pg_sub (pe_fld (pv 0) rfl) (pv 1) set_list))))) pss_nil)
     (pss_one (ps_ret pe_bl)))))))))), fun vs ps Φ h => ?_⟩
        obtain ⟨x, L, S, h, R, rfl, pk, wf, hh, hok, k⟩ := h
        try dsimp only [cxOf]
        show Ws _ _ _ _ _ [_, _, _, _, _] _
        refine Ws.ent pk (Ws.opn opn_hall fun z => ?_)
        clear pk
        obtain ⟨qp, qb, qm, qu, qg, qo, qh, ql, qe, ms, us0, zlm, zlu⟩ := z
        dsimp only
        ktf_call "go"
        -- the parts by hands
        generalize hfm : (fun h => memC E.i_Memory (ms.getD h 0) (S.mems.getD h (Mir.MemS.new S.many))) = fm
        generalize hfu : (fun h => underC (hiE E) L (ms.getD h 0) S.many (us0.getD h V.non) (S.underway.getD h none)) = fu
        have efu : ∀ k, fu k = underC (hiE E) L (ms.getD k 0) S.many (us0.getD k V.non) (S.underway.getD k none) := fun k => by rw [← hfu]
        have efm : ∀ k, fm k = memC E.i_Memory (ms.getD k 0) (S.mems.getD k (Mir.MemS.new S.many)) := fun k => by rw [← hfm]
        obtain ⟨⟨wm1, wm2⟩, wpl, wbx, wms, wun, wbg, wow, whd, ⟨wf1, wf2, wf3, wf4⟩, whand⟩ := wf
        refine ws_word (fun σ ps' => ∃ (us : List V) (v4 : Option V) (wa dA : Addr) (av : V) (S1 : Mir.HallS) (w : Mir.WorkS), S.begun h = some (S1, w) ∧ σ = [some (.ref x), some (.int h), some (.int S.hands.length), none, v4] ∧ (dA, w.deed.vals) ∈ L ∧ us = us0.set h (.ref wa) ∧
          Ent ps' (obj E.i_Hall x [("many", .int S.many), ("plans", .ref qp), ("boxes", .ref qb), ("memories", .ref qm), ("underway", .ref qu), ("begins", .ref qg), ("own", .ref qo), ("hands", .ref qh), ("lent", .ref ql), ("ended", .ref qe)] ::
            plansC L qp S1.plans :: boxC E.i_Boxes qb S.boxes S.log :: pt qm (.lst (ms.map V.ref)) :: eachR S.many fm :: pt qu (.lst us) :: workC (hiE E) wa dA (ms.getD h 0) S.many av w :: ansC av w.ans :: eachR S.many (hole fu h) ::
            pt qg (.lst (natsV S1.begins)) :: pt qo (.lst (natsV S1.own)) :: pt qh (.lst (natsV S.hands)) :: pt ql (.dT (lentK S.lent)) :: endedC (hiE E) L S.many qe S.ended :: tups L :: R)) ?_ ?_
        · rw [natsV_len]
          refine Ws.ent (each_at (f := fu) (i := h) (by ktf_call "pick") hh) ?_
          rw [efu h]
          have hbeg : S.begun h = match S.underway.getD h none with
            | some w => some (S, w)
            | none => match S.plans.getD h [] with
              | [] => none
              | d :: r => some ({ S with plans := S.plans.set h r, underway := S.underway.set h (some (Mir.workNew d h)), begins := S.begins.set h S.hands.length, own := S.own.set h 0 }, Mir.workNew d h) := rfl
          cases hu : S.underway.getD h none with
          | some w =>
            rw [hu] at hbeg
            refine Ws.opn opn_underS fun y => ?_
            obtain ⟨⟨wa, dA, av⟩, hv, hdA⟩ := y
            dsimp only at hv hdA ⊢
            refine ws_if (wt_B (we_eqN ?_))
            refine we_op (we_fld ?_)
            iterate 3 (ktf_call "step")
            refine' w2_ixU (j := h) rfl ?x1 ?x2 ?x3
            case x1 => ktf_call "rdl"
            case x2 => rw [zlu]; exact hh
            rw [hv]
            ktf_call "go"
            refine ⟨us0, none, wa, dA, av, S, w, hbeg, rfl, hdA, ?_, ?_⟩
            · rw [← hv]
              exact (List.ext_getElem? fun i => by
                by_cases e : h = i
                · subst e; rw [List.getElem?_set_self (by rw [zlu]; exact hh), getD_lt (by rw [zlu]; exact hh)]
                · rw [List.getElem?_set_ne e]).symm
            · ktf_call "ent"
          | none =>
            rw [hu] at hbeg
            dsimp only at hbeg
            refine Ws.opn opn_underN fun y => ?_
            obtain ⟨_, hv⟩ := y
            refine Ws.ent (ps' := plansC L qp S.plans :: _) (by ktf_call "ent") (Ws.opn opn_plans fun pz => ?_)
            obtain ⟨as, das, la, ld, dd⟩ := pz
            dsimp only
            have hpl : h < S.plans.length := by rw [wpl]; exact hh
            generalize hfp : (fun i => pt (as.getD i 0) (.lst ((das.getD i []).map V.ref))) = fp
            have efp : ∀ i, fp i = pt (as.getD i 0) (.lst ((das.getD i []).map V.ref)) := fun i => by rw [← hfp]
            refine Ws.ent (each_at (f := fp) (i := h) (by ktf_call "pick") hpl) ?_
            rw [efp h]
            have hdd := dd h hpl
            refine ws_if (wt_B (we_eqN ?_))
            refine we_op (we_fld ?_)
            iterate 3 (ktf_call "step")
            refine' w2_ixU (j := h) rfl ?x4 ?x5 ?x6
            case x4 => ktf_call "rdl"
            case x5 => rw [zlu]; exact hh
            rw [hv]
            ktf_call "go"
            refine' w2_ixRf (j := h) rfl ?x7 ?x8 ?x9
            case x7 => ktf_call "rdl"
            case x8 => rw [la]; exact hpl
            ktf_call "go"
            refine' w2_eqDeeds (L := L) ?y1 hdd ?y2 ?y3 ?y4
            case y1 => ktf_call "mem"
            case y2 => ktf_call "rdl"
            case y3 => ktf_call "rdl"
            ktf_call "go"
            cases hp : S.plans.getD h [] with
            | nil =>
              rw [hp] at hbeg
              refine iteD (fun _ => ?_) (fun z => absurd rfl z)
              ktf_call "go"
              have hst : S.step h = (S, false) := by unfold Mir.HallS.step; rw [hbeg]
              have k2 := k L (fun y hy => hy)
              rw [hst] at k2
              refine OutP.mk' ?_ k2
              have cl1 : ∀ R', Ent (pt (as.getD h 0) (.lst ((das.getD h []).map V.ref)) :: eachR S.plans.length (hole fp h) :: pt qp (.lst (as.map V.ref)) :: R') (plansC L qp S.plans :: R') := fun R' => by
                have c := eachR_close (R := pt qp (.lst (as.map V.ref)) :: R') (f := fp) (g := fp) hpl (fun _ _ _ => rfl)
                rw [efp h] at c
                refine c.trans ((Ent.perm (List.Perm.swap _ _ _)).trans ?_)
                subst hfp
                exact ent_plans ⟨as, das, la, ld, dd⟩
              have cl2 : ∀ R', Ent (eachR S.many (hole fu h) :: R') (eachR S.many fu :: R') := fun R' => by
                refine (ent_underN (I := hiE E) (L := L) (mem := ms.getD h 0) (many := S.many)).trans ?_
                have c := eachR_close (R := R') (f := fu) (g := fu) hh (fun _ _ _ => rfl)
                rw [efu h, hv, hu] at c
                exact c
              refine' Ent.trans ?a1 (Ent.trans (cl1 _) ?a2)
              case a1 => ktf_call "ent"
              refine' Ent.trans ?a3 (Ent.trans (cl2 _) ?a4)
              case a3 => ktf_call "ent"
              subst hfu
              subst hfm
              refine' Ent.trans ?a5 (ent_hall ⟨qp, qb, qm, qu, qg, qo, qh, ql, qe, ms, us0, zlm, zlu⟩)
              case a5 => ktf_call "ent"
            | cons d r =>
              rw [hp] at hbeg
              refine iteD (fun z => nomatch z) (fun _ => ?_)
              ktf_call "go"
              refine' w2_ixRf (j := h) rfl ?z7 ?z8 ?z9
              case z7 => ktf_call "rdl"
              case z8 => rw [la]; exact hpl
              obtain ⟨dA, dr, hdas⟩ : ∃ dA dr, das.getD h [] = dA :: dr := by
                have := hdd.1
                rw [hp] at this
                cases e : das.getD h [] with
                | nil => rw [e] at this; simp at this
                | cons dA dr => exact ⟨dA, dr, rfl⟩
              rw [hdas, hp] at hdd
              rw [hdas]
              have hdA : (dA, d.vals) ∈ L := hdd.2 0 dA d rfl rfl
              have hdr : DeedsIn L dr r := ⟨by have := hdd.1; simpa using this, fun i a d' h1 h2 => hdd.2 (i + 1) a d' (by simpa using h1) (by simpa using h2)⟩
              iterate 4 (ktf_call "step")
              refine' wm_pop0R ?w7 ?w8
              case w7 => ktf_call "rep"
              ktf_call "go"
              refine' w2_ixRf (j := h) rfl ?v7 ?v8 ?v9
              case v7 => ktf_call "rdl"
              case v8 => rw [zlm]; exact hh
              ktf_call "go"
              refine' z_workof (d := d) ?t1 wm2 ?t2
              case t1 => exact rdt_tups (L := L) (by ktf_call "mem") hdA
              intro wx
              ktf_call "go"
              refine' wst_LN (x := S.hands.length) ?s1 ?s2 ?s3
              case s1 => ktf_call "rep"
              case s2 => exact ⟨Int.natCast_nonneg _, by rw [wbg]; exact Int.ofNat_lt.mpr hh⟩
              ktf_call "go"
              refine' wst_LN (x := 0) ?s4 ?s5 ?s6
              case s4 => ktf_call "rep"
              case s5 => exact ⟨Int.natCast_nonneg _, by rw [wow]; exact Int.ofNat_lt.mpr hh⟩
              rw [Int.toNat_natCast]
              refine ⟨_, _, wx, dA, .non, _, _, hbeg, rfl, hdA, rfl, ?_⟩
              have cl1 : ∀ R', Ent (pt (as.getD h 0) (.lst (dr.map V.ref)) :: eachR S.plans.length (hole fp h) :: pt qp (.lst (as.map V.ref)) :: R') (plansC L qp (S.plans.set h r) :: R') := fun R' => by
                have c := eachR_close (R := pt qp (.lst (as.map V.ref)) :: R') (f := fp) (g := fun i => pt (as.getD i 0) (.lst (((das.set h dr).getD i []).map V.ref))) hpl (fun i _ hi => by
                  show pt (as.getD i 0) (.lst (((das.set h dr).getD i []).map V.ref)) = fp i
                  rw [getD_set_ne (Ne.symm hi), efp i])
                rw [getD_set_eq (by rw [ld]; exact hpl)] at c
                refine c.trans ((Ent.perm (List.Perm.swap _ _ _)).trans ?_)
                have z := ent_plans (R := R') (q := qp) (plans := S.plans.set h r) ⟨as, das.set h dr, by rw [List.length_set]; exact la, by rw [List.length_set, List.length_set]; exact ld, fun i hi => by
                  by_cases e : h = i
                  · subst e
                    rw [getD_set_eq (by rw [ld]; exact hpl), getD_set_eq hpl]; exact hdr
                  · rw [getD_set_ne e, getD_set_ne e]
                    exact dd i (by rw [List.length_set] at hi; exact hi)⟩
                dsimp only at z
                rw [List.length_set] at z
                exact z
              refine' Ent.trans ?a6 (Ent.trans (cl1 _) ?a7)
              case a6 => ktf_call "ent"
              show Ent _ (obj E.i_Hall x _ :: plansC L qp (S.plans.set h r) :: boxC E.i_Boxes qb S.boxes S.log :: pt qm (.lst (ms.map V.ref)) :: eachR S.many fm :: pt qu (.lst (us0.set h (.ref wx))) :: workC (hiE E) wx dA (ms.getD h 0) S.many .non (Mir.workNew d h) :: ansC .non .non :: eachR S.many (hole fu h) ::
                pt qg (.lst (natsV (S.begins.set h S.hands.length))) :: pt qo (.lst (natsV (S.own.set h 0))) :: pt qh (.lst (natsV S.hands)) :: pt ql (.dT (lentK S.lent)) :: endedC (hiE E) L S.many qe S.ended :: tups L :: R)
              ktf_call "ent"
        · rintro σ ps' ⟨us, v4, wa, dA, av, S1, w, hbeg, rfl, hdA, hus, e⟩
          refine Ws.ent e ?_
          clear e
          have bo := Mir.begunOf hbeg (by rw [wun]; exact hh)
          have husl : us.length = S.many := by rw [hus, List.length_set]; exact zlu
          have hush : us.getD h .non = .ref wa := by rw [hus]; exact getD_set_eq (by rw [zlu]; exact hh)
          have hsok := hok S1 w hbeg
          rw [bo.many, bo.boxes, bo.lent, bo.mems] at hsok
          have hst : S.step h = (S1.run h w, true) := by unfold Mir.HallS.step; rw [hbeg]
          have hwh : w.hand < S.many := by
            rcases bo.hand with e | e
            · rw [e]; exact hh
            · exact whand h w e
          rw [hst] at k
          obtain ⟨many1, plans1, boxes1, log1, mems1, under1, begins1, own1, hands1, lent1, ended1⟩ := S1
          obtain ⟨b1, b2, b3, b4, b5, b6, b7, b8, b9, b10, b11, b12, b13, b14⟩ := bo
          dsimp only at b1 b2 b3 b4 b5 b6 b7 b8 b9 b10 b11 b12 b13 b14
          subst b1 b2 b3 b4 b5 b6 b7
          have hoL : h < own1.length := by rw [b10, wow]; exact hh
          have hbL : h < begins1.length := by rw [b9, wbg]; exact hh
          have huL : h < us.length := by rw [husl]; exact hh
          have hln : (natsV S.hands).length < sizeLine := by rw [natsV_len]; exact Nat.lt_of_le_of_lt (m := 90000) (by omega) (by decide)
          refine Ws.ent (each_at (f := fm) (i := h) (by ktf_call "pick") hh) ?_
          rw [efm h]
          iterate 7 (ktf_call "step")
          refine' w2_ixU (j := h) rfl ?p1 ?p2 ?p3
          case p1 => ktf_call "rdl"
          case p2 => exact huL
          rw [hush]
          ktf_call "go"
          refine' w2_ixN ?p4 ?p5 ?p6
          case p4 => ktf_call "rdl"
          case p5 => exact ⟨Int.natCast_nonneg _, Int.ofNat_lt.mpr hoL⟩
          rw [Int.toNat_natCast, natsV_snoc]
          ktf_call "go"
          have e1 : ((own1.getD h 0 : Nat) : Int) + 1 = ((own1.getD h 0 + 1 : Nat) : Int) := rfl
          rw [e1]
          refine' wst_LN ?p7 ?p8 ?p9
          case p7 => ktf_call "rep"
          case p8 => exact ⟨Int.natCast_nonneg _, Int.ofNat_lt.mpr hoL⟩
          rw [Int.toNat_natCast]
          refine ws_plain (ws_if (wt_B ?_))
          refine' we_dispatch (E := E) (wa := wa) (vs := [.ref qb, .int (S.hands.length : Nat), .ref ql]) (dA := dA) (mem := ms.getD h 0) (many := S.many) (av := av) (w := w) (fun Ψ hΨ => we_var rfl hΨ) (fun Ψ hΨ => ?wa) ?wm
            fun c hc => ⟨wa, dA, ms.getD h 0, qb, ql, av, S.hands.length, S.many, S.boxes, S.log, S.lent, S.mems.getD h (Mir.MemS.new S.many), w, _, rfl, ?ent, ?rd, hc, ⟨wm1, wm2, hwh, wbx, by omega, by omega⟩, hsok, fun av' => ?key⟩
          case wm => ktf_call "mem"
          case ent => ktf_call "ent"
          case rd => exact rdt_tups (L := L) (by ktf_call "mem") hdA
          case wa =>
            ktf_call "go"
            exact hΨ
          case key =>
            refine boolG ?_
            dsimp only at k ⊢
            have hwd : (Mir.stepF S.many S.hands.length S.boxes S.lent (S.mems.getD h (Mir.MemS.new S.many)) w).work.deed = w.deed := Mir.stepF_deed.1
            have hrun : Mir.HallS.run ⟨S.many, plans1, S.boxes, S.log, S.mems, under1, begins1, own1, S.hands, S.lent, S.ended⟩ h w = match (Mir.stepF S.many S.hands.length S.boxes S.lent (S.mems.getD h (Mir.MemS.new S.many)) w).fin with
              | true => ⟨S.many, plans1, boxesT S.boxes (Mir.stepF S.many S.hands.length S.boxes S.lent (S.mems.getD h (Mir.MemS.new S.many)) w).touch, S.log ++ [(Mir.stepF S.many S.hands.length S.boxes S.lent (S.mems.getD h (Mir.MemS.new S.many)) w).touch], S.mems.set h (Mir.stepF S.many S.hands.length S.boxes S.lent (S.mems.getD h (Mir.MemS.new S.many)) w).mem, under1.set h none, begins1, own1.set h 0, S.hands ++ [h], (Mir.stepF S.many S.hands.length S.boxes S.lent (S.mems.getD h (Mir.MemS.new S.many)) w).lent, S.ended ++ [⟨(Mir.stepF S.many S.hands.length S.boxes S.lent (S.mems.getD h (Mir.MemS.new S.many)) w).work, begins1.getD h 0, S.hands.length⟩]⟩
              | false => ⟨S.many, plans1, boxesT S.boxes (Mir.stepF S.many S.hands.length S.boxes S.lent (S.mems.getD h (Mir.MemS.new S.many)) w).touch, S.log ++ [(Mir.stepF S.many S.hands.length S.boxes S.lent (S.mems.getD h (Mir.MemS.new S.many)) w).touch], S.mems.set h (Mir.stepF S.many S.hands.length S.boxes S.lent (S.mems.getD h (Mir.MemS.new S.many)) w).mem, under1.set h (some (Mir.stepF S.many S.hands.length S.boxes S.lent (S.mems.getD h (Mir.MemS.new S.many)) w).work), begins1, own1.set h (own1.getD h 0 + 1), S.hands ++ [h], (Mir.stepF S.many S.hands.length S.boxes S.lent (S.mems.getD h (Mir.MemS.new S.many)) w).lent, S.ended⟩ := rfl
            rw [hrun] at k
            clear hrun hst hsok
            generalize Mir.stepF S.many S.hands.length S.boxes S.lent (S.mems.getD h (Mir.MemS.new S.many)) w = r at *
            have cm : ∀ R', Ent (memC E.i_Memory (ms.getD h 0) r.mem :: eachR S.many (hole fm h) :: R') (eachR S.many (fun k => memC E.i_Memory (ms.getD k 0) ((S.mems.set h r.mem).getD k (Mir.MemS.new S.many))) :: R') := fun R' => by
              have c := eachR_close (R := R') (f := fm) (g := fun k => memC E.i_Memory (ms.getD k 0) ((S.mems.set h r.mem).getD k (Mir.MemS.new S.many))) hh (fun i _ hi => by
                show memC E.i_Memory (ms.getD i 0) ((S.mems.set h r.mem).getD i (Mir.MemS.new S.many)) = fm i
                rw [getD_set_ne (Ne.symm hi), efm i])
              rw [getD_set_eq (by rw [wms]; exact hh)] at c
              exact c
            have cu : ∀ (L' : Pool) (hL : ∀ y ∈ L, y ∈ L') v o R', Ent (underC (hiE E) L' (ms.getD h 0) S.many v o :: eachR S.many (hole fu h) :: R') (eachR S.many (fun k => underC (hiE E) L' (ms.getD k 0) S.many ((us.set h v).getD k .non) ((under1.set h o).getD k none)) :: R') := fun L' hL v o R' => by
              have c := eachR_close (R := R') (f := fun k => underC (hiE E) L' (ms.getD k 0) S.many (us0.getD k V.non) (S.underway.getD k none)) (g := fun k => underC (hiE E) L' (ms.getD k 0) S.many ((us.set h v).getD k .non) ((under1.set h o).getD k none)) hh (fun i _ hi => by
                show underC (hiE E) L' (ms.getD i 0) S.many ((us.set h v).getD i .non) ((under1.set h o).getD i none) = underC (hiE E) L' (ms.getD i 0) S.many (us0.getD i V.non) (S.underway.getD i none)
                rw [getD_set_ne (Ne.symm hi), getD_set_ne (Ne.symm hi), b13 i hi, hus, getD_set_ne (Ne.symm hi)])
              rw [getD_set_eq huL, getD_set_eq (by rw [b11, wun]; exact hh)] at c
              refine Ent.trans (Ent.cons (eachR_mono fun k _ => ?_)) c
              unfold hole
              by_cases e : k = h
              · rw [if_pos e, if_pos e]; exact Ent.rf
              · rw [if_neg e, if_neg e, efu k]; exact under_mono hL
            cases hf : r.fin with
            | false =>
              rw [hf] at k
              dsimp only at k
              have k2 := k L fun y hy => hy
              refine iteF ?_
              ktf_call "go"
              refine OutP.mk' ?_ k2
              have hu2 : us.set h (.ref wa) = us := by
                refine List.ext_getElem? fun i => ?_
                by_cases e : h = i
                · subst e; rw [List.getElem?_set_self huL, getD_lt huL, hush]
                · rw [List.getElem?_set_ne e]
              have cu1 := cu L (fun y hy => hy) (.ref wa) (some r.work)
              rw [hu2] at cu1
              refine' Ent.trans ?g1 (Ent.trans (cm _) ?g2)
              case g1 => ktf_call "ent"
              refine' Ent.trans (Ent.trans ?g3 (ent_underS (I := hiE E) (dA := dA) (by rw [hwd]; exact hdA))) (Ent.trans (cu1 _) ?g4)
              case g3 => ktf_call "ent"
              refine' Ent.trans ?g5 (ent_hall (S := ⟨S.many, plans1, boxesT S.boxes r.touch, S.log ++ [r.touch], S.mems.set h r.mem, under1.set h (some r.work), begins1, own1.set h (own1.getD h 0 + 1), S.hands ++ [h], r.lent, S.ended⟩) ⟨qp, qb, qm, qu, qg, qo, qh, ql, qe, ms, us, zlm, husl⟩)
              case g5 => ktf_call "ent"
            | true =>
              rw [hf] at k
              dsimp only at k
              refine iteT ?_
              refine Ws.ent (ps' := endedC (hiE E) L S.many qe S.ended :: _) (by ktf_call "ent") (Ws.opn opn_ended fun y => ?_)
              obtain ⟨as, has⟩ := y
              dsimp only
              have hln2 : (as.map V.ref).length < sizeLine := by rw [List.length_map]; exact Nat.lt_of_le_of_lt (m := 90000) (by omega) (by decide)
              ktf_call "go"
              refine' w2_ixN ?q1 ?q2 ?q3
              case q1 => ktf_call "rdl"
              case q2 => exact ⟨Int.natCast_nonneg _, Int.ofNat_lt.mpr hbL⟩
              rw [Int.toNat_natCast]
              ktf_call "go"
              intro ea
              refine z_doneinit ⟨rfl, ?_⟩
              ktf_call "go"
              rw [Int.toNat_natCast]
              refine' wst_LN (x := 0) ?q4 ?q5 ?q6
              case q4 => ktf_call "rep"
              case q5 => exact ⟨Int.natCast_nonneg _, by show (h : Int) < (((own1.set h (own1.getD h 0 + 1)).length : Nat) : Int); rw [List.length_set]; exact Int.ofNat_lt.mpr hoL⟩
              rw [Int.toNat_natCast, List.set_set]
              ktf_call "go"
              refine OutP.opn (Opn.ent (ps' := ansC av' r.work.ans :: tups L :: _) (by ktf_call "ent") ans_pool) fun y => ?_
              obtain ⟨⟨L', hL⟩, ha⟩ := y
              dsimp only at ha ⊢
              have k2 := k L' hL
              refine OutP.mk' ?_ k2
              have cd : ∀ R', Ent (obj E.i_Done ea [("work", .ref wa), ("begin", .int (begins1.getD h 0 : Nat)), ("end", .int (S.hands.length : Nat))] :: workC (hiE E) wa dA (ms.getD h 0) S.many av' r.work :: pt qe (.lst (as.map V.ref ++ [.ref ea])) :: eachR S.ended.length (fun i => doneC (hiE E) L S.many (as.getD i 0) (S.ended.getD i default)) :: R')
                  (endedC (hiE E) L' S.many qe (S.ended ++ [⟨r.work, begins1.getD h 0, S.hands.length⟩]) :: R') := fun R' => by
                refine Ent.trans (ent_done (I := hiE E) (L := L') (d := ⟨r.work, begins1.getD h 0, S.hands.length⟩) (by show (dA, r.work.deed.vals) ∈ L'; rw [hwd]; exact hL _ hdA) ha) ?_
                refine Ent.trans (Ent.cons (Ent.cons (eachR_mono fun k _ => done_mono hL))) ?_
                refine Ent.trans (Ent.perm (List.Perm.swap _ _ _)) ?_
                exact ent_ended_snoc has
              refine' Ent.trans ?o1 (Ent.trans (cm _) ?o2)
              case o1 => ktf_call "ent"
              refine' Ent.trans ?o3 (Ent.trans (cd _) ?o4)
              case o3 => ktf_call "ent"
              refine' Ent.trans ?o5 (Ent.trans (plans_mono (q := qp) (plans := plans1) hL) ?o6)
              case o5 => ktf_call "ent"
              refine' Ent.trans (Ent.trans ?o7 (ent_underN (I := hiE E) (L := L') (mem := ms.getD h 0) (many := S.many))) (Ent.trans (cu L' hL .non none _) ?o8)
              case o7 => ktf_call "ent"
              refine' Ent.trans ?o9 (ent_hall (S := ⟨S.many, plans1, boxesT S.boxes r.touch, S.log ++ [r.touch], S.mems.set h r.mem, under1.set h none, begins1, own1.set h 0, S.hands ++ [h], r.lent, S.ended ++ [⟨r.work, begins1.getD h 0, S.hands.length⟩]⟩) ⟨qp, qb, qm, qu, qg, qo, qh, ql, qe, ms, us.set h .non, zlm, by rw [List.length_set]; exact husl⟩)
              case o9 => ktf_call "ent") only [↓Bx.tr]
end
end
section
section
variable {P : Program} {w : World} {K : PySem.W.Frag} {mg : Str → Option Value} {base : Heap}
noncomputable def S_need (K : PySem.W.Frag) : SP := fun vs ps Φ => ∃ (q : Addr) (d : Deed) (h : Int), vs = [.ref q, .int h] ∧ RdT K ps q d.vals ∧ d.ok ∧ (d = .take → h = 0) ∧ Φ .non ps
theorem z_need {ps : List HP} {Φ : V → List HP → Prop} {q : Addr} {d : Deed} {h : Int} (rd : RdT K ps q d.vals) (ok : d.ok) (ht : d = .take → h = 0) (k : Φ .non ps) : S_need K [.ref q, .int h] ps Φ := ⟨q, d, h, rfl, rd, ok, ht, k⟩
theorem ok_need_deed (E : Env K mg) : FnOk P w K mg base CX0 1 E.f_need_deed E.fd_need_deed ["deed", "hand"] (spS (S_need K)) := by
  refine Bx.out ?_
  simp (disch := with_unfolding_all
      refine okS E.F_need_deed sc_need_deed (fun vs ps Φ h => ?_) (fun cdv A outer s H E0 hr => ?_)
      · obtain ⟨q, d, h, rfl, _⟩ := h; rfl
      · refine ⟨_, ((Evl.pss_cut (ps_if (PW.pt (pw_and (pt_cmpR op_eq (pe_callB cr_len (by rfl) E.bn_len (by decide +kernel) (pa_cons (pv 0) pa_nil)) pe_int (nomark _)) (pw_and1 (pt_cmpR op_in_seq (pe_ix ix_tup (pv 0) pe_int (fun _ _ => rfl)) (pe_glob (v := .ref E.a_WITH_NUMBER) (by rfl) E.g_WITH_NUMBER rfl) (by rfl))))) (pss_one (ps_if (pt_not (pt_chain op_le op_le pe_int (pe_ix ix_tup (pv 0) pe_int (fun _ _ => rfl)) (pe_glob (v := .int 999) (by rfl) E.g_MOST_NUMBER ⟨_, rfl⟩))) (pss_one ps_never) pss_nil)) (pss_one (ps_if (PW.pt (pw_or (pt_cmpR op_ne (pe_callB cr_len (by rfl) E.bn_len (by decide +kernel) (pa_cons (pv 0) pa_nil)) pe_int (nomark _)) (pw_or1 (pt_cmpR op_notIn_seq (pe_ix ix_tup (pv 0) pe_int (fun _ _ => rfl)) (pe_glob (v := .ref E.a_ALONE) (by rfl) E.g_ALONE rfl) (by rfl))))) (pss_one ps_never) pss_nil)))
     (pss_one (ps_if (PW.pt (pw_and (pt_cmpR op_eq (pe_ix ix_tup (pv 0) pe_int (fun _ _ => rfl)) pe_str (nomark _)) (pw_and1 (pt_cmpR op_ne (pv 1) pe_int (nomark _))))) (pss_one ps_never) pss_nil)))), fun vs ps Φ h => ?_⟩
        obtain ⟨q, d, h, rfl, rd, ok, ht, k⟩ := h
        try dsimp only [cxOf]
        show Ws _ _ _ _ _ [_, _] _
        have t1 := E.t_WITH_NUMBER
        have t2 := E.t_ALONE
        have rd1 : RdT K ps E.a_WITH_NUMBER _ := rdt_of t1
        have rd2 : RdT K ps E.a_ALONE _ := rdt_of t2
        cases d
        all_goals simp only [Deed.vals] at rd
        all_goals refine ws_plain ?_
        all_goals ktf_call "go"
        all_goals first | ((refine OutP.mk' ?_ k); ktf_call "ent") | skip
        all_goals try (refine iteTd rfl ?_; ktf_call "go")
        all_goals try (refine iteD (fun _ => ?_) (fun z => absurd (Int.natCast_nonneg _) z); ktf_call "go")
        all_goals try (refine iteND (fun z => absurd (by have hk : _ < 1000 := ok; omega) z) (fun _ => ?_); ktf_call "go"; exact OutP.mk' (by ktf_call "ent") k)
        refine iteND (fun z => absurd (ht rfl) z) (fun _ => ?_)
        ktf_call "go"
        exact OutP.mk' (by ktf_call "ent") k) only [↓Bx.tr]
end
theorem w2_repV {ps : List HP} {Φ : V → List HP → Prop} {a : Addr} {v : V} {n : Nat} (m : pt a (.lst [v]) ∈ ps) (h : n ≤ 1000000) (k : ∀ p, Φ (.ref p) (pt p (.lst (List.replicate n v)) :: ps)) : W2 rRep (.ref a) (.int (n : Int)) ps Φ := by
  refine w2_rep m (by omega) (by omega) ?_ fun p => ?_
  · have : sizeLine ≥ 1000000 := by decide
    simp only [List.length_cons, List.length_nil]; omega
  · have e : (List.replicate (n : Int).toNat [v]).flatten = List.replicate n v := by
      rw [Int.toNat_natCast]
      clear k m h
      induction n with
      | zero => rfl
      | succ j ih => rw [List.replicate_succ, List.flatten_cons, ih, List.replicate_succ]; rfl
    rw [e]; exact k p
theorem rdl_eachR {K : PySem.W.Frag} {ps : List HP} {as : List Addr} {das : List (List Addr)} {n k : Nat} (m : eachR n (fun i => pt (as.getD i 0) (.lst ((das.getD i []).map V.ref))) ∈ ps) (hk : k < n) : RdL K ps (as.getD k 0) ((das.getD k []).map V.ref) := RdL.ent (eachR_at m hk) (rdl_pt (List.mem_cons_self ..))
theorem snocEach {F : Addr → Nat → HP} {d q : Addr} {ns : List Addr} {i : Nat} {R : List HP} (h : ns.length = i) : Ent (pt d (.lst (ns.map V.ref ++ [.ref q])) :: F q i :: eachR i (fun k => F (ns.getD k 0) k) :: R) (pt d (.lst ((ns ++ [q]).map V.ref)) :: eachR (i + 1) (fun k => F ((ns ++ [q]).getD k 0) k) :: R) := by
  have e1 : ns.map V.ref ++ [V.ref q] = (ns ++ [q]).map V.ref := by rw [List.map_append]; rfl
  rw [e1]
  refine Ent.cons ?_
  have c := eachR_snoc (R := R) (n := i) (f := fun k => F (ns.getD k 0) k) (g := fun k => F ((ns ++ [q]).getD k 0) k) fun k hk => by
    show F ((ns ++ [q]).getD k 0) k = F (ns.getD k 0) k
    rw [getD_snoc_lt (by omega)]
  rw [getD_snoc_eq h.symm] at c
  exact c
theorem eachR_of {n : Nat} {f : Nat → HP} {R : List HP} (h : ∀ k, k < n → ∀ R, Ent R (f k :: R)) : Ent R (eachR n f :: R) := by
  induction n with
  | zero => exact eachR_zero
  | succ n ih => exact (ih fun k hk => h k (by omega)).trans ((h n (by omega) _).trans (eachR_snoc fun _ _ => rfl))
section
variable {P : Program} {w : World} {K : PySem.W.Frag} {mg : Str → Option Value} {base : Heap}
noncomputable def PlanOk' (P : List (List Deed)) : Prop := (1 ≤ P.length ∧ P.length ≤ 4) ∧ ∀ h, h < P.length → (P.getD h []).length ≤ 40 ∧ ∀ d ∈ P.getD h [], d.ok ∧ (d = .take → h = 0)
noncomputable def S_hallinit (E : Env K mg) : SP := fun vs ps Φ => ∃ (x a : Addr) (L : Pool) (Pl : List (List Deed)) (R : List HP), vs = [.ref x, .ref a] ∧ Ent ps (obj E.i_Hall x [] :: plansC L a Pl :: tups L :: R) ∧ PlanOk' Pl ∧ Φ .non (hallC (hiE E) x L (.new Pl) :: plansC L a Pl :: tups L :: R)
theorem z_hallinit {E : Env K mg} {ps R : List HP} {Φ : V → List HP → Prop} {x a : Addr} {L : Pool} {Pl : List (List Deed)} (e : Ent ps (obj E.i_Hall x [] :: plansC L a Pl :: tups L :: R)) (h : PlanOk' Pl) (k : Φ .non (hallC (hiE E) x L (.new Pl) :: plansC L a Pl :: tups L :: R)) : S_hallinit E [.ref x, .ref a] ps Φ := ⟨x, a, L, Pl, R, rfl, e, h, k⟩
theorem ok_Hall_init (E : Env K mg) : FnOk P w K mg base CX0 3 E.f_Hall_init E.fd_Hall_init ["self", "plans"] (spS (S_hallinit E)) := by
  refine Bx.out ?_
  simp (disch := with_unfolding_all
      refine okS E.F_Hall_init sc_Hall_init (fun vs ps Φ h => ?_) (fun cdv A outer s H E0 hr => ?_)
      · obtain ⟨x, a, L, Pl, R, rfl, _⟩ := h; rfl
      · have hu := hu_of hr
        refine ⟨_, ((pss_cons (ps_if (pt_not (pt_chain op_le op_le pe_int (pe_callB cr_len (by rfl) E.bn_len (by decide +kernel) (pa_cons (pv 1) pa_nil)) (pe_glob (v := .int 4) (by rfl) E.g_MOST_HANDS ⟨_, rfl⟩))) (pss_one ps_never) pss_nil)
     (pss_cons (ps_for PassesOwn.never rfl (pi_enum (by rfl) E.bn_enumerate (pa_cons (pv 1) pa_nil)) (pg_tup rfl (pgs_cons (pg_name (i := 2) sc_Hall_init.nd rfl (by first | exact Or.inl rfl | exact Or.inr rfl)) (pgs_cons (pg_name (i := 3) sc_Hall_init.nd rfl (by first | exact Or.inl rfl | exact Or.inr rfl)) pgs_nil))) (pss_cons (ps_if (pt_cmpR op_gt (pe_callB cr_len (by rfl) E.bn_len (by decide +kernel) (pa_cons (pv 3) pa_nil)) (pe_glob (v := .int 40) (by rfl) E.g_MOST_DEEDS ⟨_, rfl⟩) (nomark _)) (pss_one ps_never) pss_nil)
     (pss_one (ps_for PassesOwn.never rfl (pi_list (pv 3)) (pg_name (i := 4) sc_Hall_init.nd rfl (by first | exact Or.inl rfl | exact Or.inr rfl)) (pss_one (ps_expr (pe_call (ok_need_deed E) (hr.mono (by decide)) rfl E.g_need_deed E.k_need_deed E.b_need_deed .nil pass0 (pa_cons (pv 4) (pa_cons (pv 2) pa_nil)))))))))
     (pss_cons (ps_fld (pv 0) (pe_callB cr_len (by rfl) E.bn_len (by decide +kernel) (pa_cons (pv 1) pa_nil)) rfl)
     (pss_cons (ps_fld (pv 0) (pe_lc (own := [("plan", 3)]) (g := gName 3) (te := (tCB (rListOf K) _)) (tt := tYes)  (by rfl) sc_Hall_init.nd (pi_list (pv 1)) (blkOk_by (own := [("plan", 3)]) (N := n_Hall_init) (sc := defScope s_Hall_init) (by decide +kernel)) (fun _ _ _ _ _ => (pg_name (i := 3) sc_Hall_init.nd rfl (by first | exact Or.inl rfl | exact Or.inr rfl))) (fun _ _ _ _ _ => pts_nil) (fun _ _ _ _ _ => (pe_callTy cr_listOf (by rfl) E.bn_list (by decide +kernel) (pa_cons (pv 3) pa_nil)))) rfl)
     (pss_cons (ps_fld (pv 0) (pe_make E.mk_Boxes (ok_Boxes_init E) (hr.mono (by decide)) rfl E.g_Boxes E.b_Boxes_init .nil pass0 (pa_cons (pe_op op_mul (pe_glob (v := .int 5) (by rfl) E.g_THINGS ⟨_, rfl⟩) (pe_fld (pv 0) rfl)) pa_nil)) rfl)
     (pss_cons (ps_fld (pv 0) (pe_lc (own := [("plan", 3)]) (g := gName 3) (te := (tMake _ _ [] _ (tCons (tFld K _ "many") tNil))) (tt := tYes)  (by rfl) sc_Hall_init.nd (pi_list (pv 1)) (blkOk_by (own := [("plan", 3)]) (N := n_Hall_init) (sc := defScope s_Hall_init) (by decide +kernel)) (fun _ _ _ _ _ => (pg_name (i := 3) sc_Hall_init.nd rfl (by first | exact Or.inl rfl | exact Or.inr rfl))) (fun _ _ _ _ _ => pts_nil) (fun _ _ _ _ _ => (pe_make E.mk_Memory (ok_Memory_init E) (hr.mono (by decide)) rfl E.g_Memory E.b_Memory_init .nil pass0 (pa_cons (pe_fld (pv 0) rfl) pa_nil)))) rfl)
     (pss_cons (ps_fld (pv 0) (pe_op op_rep (pe_lst (pa_cons pe_non pa_nil)) (pe_fld (pv 0) rfl)) rfl)
     (pss_cons (ps_fld (pv 0) (pe_op op_rep (pe_lst (pa_cons pe_int pa_nil)) (pe_fld (pv 0) rfl)) rfl)
     (pss_cons (ps_fld (pv 0) (pe_op op_rep (pe_lst (pa_cons pe_int pa_nil)) (pe_fld (pv 0) rfl)) rfl)
     (pss_cons (ps_fld (pv 0) (pe_lst pa_nil) rfl)
     (pss_cons (ps_fld (pv 0) pe_dnewT rfl)
     (pss_one (ps_fld (pv 0) (pe_lst pa_nil) rfl)))))))))))))), fun vs ps Φ h => ?_⟩
        obtain ⟨x, a, L, Pl, R, rfl, pk, ⟨⟨hp1, hp2⟩, hpl⟩, k⟩ := h
        try dsimp only [cxOf]
        show Ws _ _ _ _ _ [_, _, _, _, _] _
        refine Ws.ent (pk.trans (Ent.perm (List.Perm.swap _ _ _))) (Ws.opn opn_plans fun pz => ?_)
        obtain ⟨as, das, la, ld, dd⟩ := pz
        dsimp only
        ktf_call "go"
        rw [List.length_map, la]
        refine iteD (fun _ => ?_) (fun z => absurd (by omega) z)
        ktf_call "go"
        refine iteND (fun z => absurd (by omega) z) (fun _ => ?_)
        ktf_call "go"
        refine ws_for (wi_E ?_)
        ktf_call "go"
        refine ⟨a, _, rfl, by ktf_call "rdl", fun i σ ps => ∃ v2 v3 v4, σ = [some (.ref x), some (.ref a), v2, v3, v4] ∧ Ent ps (obj E.i_Hall x [] :: pt a (.lst (as.map V.ref)) :: eachR Pl.length (fun i => pt (as.getD i 0) (.lst ((das.getD i []).map V.ref))) :: tups L :: R), ⟨none, none, none, rfl, by ktf_call "ent"⟩, ?_, ?_, ?_⟩
        · rintro i σ ps ⟨v2, v3, v4, rfl, e⟩ _
          exact RdL.ent e (by ktf_call "rdl")
        · rintro i y ex σ ps hi ⟨p, y2, hy, rfl, rfl⟩ ⟨v2, v3, v4, rfl, e⟩
          replace hi : i < Pl.length := by simpa [srcE, la] using hi
          have hy2 : y2 = .ref (as.getD i 0) := by
            rw [List.getElem?_map, getD_lt (d := 0) (by omega)] at hy
            exact (Option.some.inj hy).symm
          subst hy2
          refine Wg.ent e ?_
          have hdd := dd i hi
          obtain ⟨hl40, hdok⟩ := hpl i hi
          ktf_call "go"
          refine wc_lenL (rdl_eachR (by ktf_call "mem") hi) ?_
          ktf_call "go"
          rw [List.length_map, hdd.1]
          refine iteD (fun z => absurd z (by omega)) (fun _ => ?_)
          ktf_call "go"
          refine ws_for (wi_L ?_)
          ktf_call "go"
          refine ⟨as.getD i 0, _, rfl, rdl_eachR (n := Pl.length) (by ktf_call "mem") hi, fun j σ ps => ∃ v4, σ = [some (.ref x), some (.ref a), some (.int (i : Nat)), some (.ref (as.getD i 0)), v4] ∧ ps = _, ⟨v4, rfl, rfl⟩, ?_, ?_, ?_⟩
          · rintro j σ ps ⟨v4, rfl, rfl⟩ _
            exact rdl_eachR (n := Pl.length) (by ktf_call "mem") hi
          · rintro j y ex σ ps hj ⟨hy, rfl⟩ ⟨v4, rfl, rfl⟩
            replace hj : j < (das.getD i []).length := by simpa [srcL] using hj
            have hj2 : j < (Pl.getD i []).length := by rw [← hdd.1]; exact hj
            have hy2 : y = .ref (das.getD i [])[j] := by
              rw [List.getElem?_map, List.getElem?_eq_getElem hj] at hy
              exact (Option.some.inj hy).symm
            subst hy2
            have hin := hdd.2 j _ _ (List.getElem?_eq_getElem hj) (List.getElem?_eq_getElem hj2)
            obtain ⟨o1, o2⟩ := hdok _ (List.getElem_mem hj2)
            generalize (Pl.getD i [])[j] = dd1 at hin o1 o2
            generalize (das.getD i [])[j] = da1 at hin
            ktf_call "go"
            refine' z_need (d := dd1) (rdt_tups (L := L) ?y1 hin) o1 (fun z => by rw [o2 z]; rfl) ?y2
            case y1 => ktf_call "mem"
            ktf_call "go"
            exact ⟨_, rfl, rfl⟩
          · rintro σ ps ⟨v4, rfl, rfl⟩
            exact ⟨_, _, _, rfl, by ktf_call "ent"⟩
        · rintro σ ps ⟨v2, v3, v4, rfl, e⟩
          refine Ws.ent e ?_
          ktf_call "go"
          rw [List.length_map, la]
          refine we_lc (wi_L ?_)
          ktf_call "go"
          refine ⟨a, _, rfl, by ktf_call "rdl", fun d i acc ps => ∃ ns : List Addr, ns.length = i ∧ acc = ns.map V.ref ∧ Ent ps (pt d (.lst acc) :: eachR i (fun k => pt (ns.getD k 0) (.lst ((das.getD k []).map V.ref))) :: _), fun d => ⟨[], rfl, rfl, Ent.cons eachR_zero⟩, ?_, ?_, ?_⟩
          · rintro d i acc ps ⟨ns, hn, rfl, e2⟩ _
            exact RdL.ent e2 (by ktf_call "rdl")
          · rintro d i y ex acc ps hi ⟨hy, rfl⟩ ⟨ns, hn, rfl, e2⟩
            replace hi : i < Pl.length := by simpa [srcL, la] using hi
            have hy2 : y = .ref (as.getD i 0) := by
              rw [List.getElem?_map, getD_lt (d := 0) (by omega)] at hy
              exact (Option.some.inj hy).symm
            subst hy2
            have hnl : (ns.map V.ref).length < sizeLine := by rw [List.length_map]; exact Nat.lt_of_le_of_lt (m := 1000) (by omega) (by decide)
            refine Wg.ent e2 ?_
            ktf_call "go"
            refine wc_listL (rdl_eachR (n := Pl.length) (as := as) (das := das) (by ktf_call "mem") hi) fun q => ?_
            ktf_call "go"
            refine ⟨ns ++ [q], by simp [hn], by simp, ?_⟩
            have c := snocEach (F := fun q k => pt q (.lst ((das.getD k []).map V.ref))) (d := d) (q := q) (ns := ns) (i := i) (R := obj E.i_Hall x [("many", .int (Pl.length : Nat))] :: pt a (.lst (as.map V.ref)) :: eachR Pl.length (fun i => pt (as.getD i 0) (.lst ((das.getD i []).map V.ref))) :: tups L :: R) hn
            have em : (ns ++ [q]).map V.ref = ns.map V.ref ++ [.ref q] := by simp
            rw [em] at c
            refine' Ent.trans ?y3 c
            case y3 => ktf_call "ent"
          rintro d acc ps ⟨ns, hn, rfl, e2⟩
          have hn : ns.length = Pl.length := by simpa [srcL, la] using hn
          have e3 : (srcL K a (as.map V.ref)).n = Pl.length := by simp [srcL, la]
          rw [e3] at e2
          clear e
          have e4 : Ent ps (plansC L d Pl :: obj E.i_Hall x [("many", .int (Pl.length : Nat))] :: pt a (.lst (as.map V.ref)) :: eachR Pl.length (fun i => pt (as.getD i 0) (.lst ((das.getD i []).map V.ref))) :: tups L :: R) := e2.trans (ent_plans ⟨ns, das, hn, ld, dd⟩)
          clear e2
          refine We.ent e4 ?_
          ktf_call "go"
          intro bx
          refine z_binit (by omega) ⟨rfl, ?_⟩
          have eb : ((5 : Int) * ((Pl.length : Nat) : Int)).toNat = 5 * Pl.length := by omega
          rw [eb]
          ktf_call "go"
          refine we_lc (wi_L ?_)
          ktf_call "go"
          refine ⟨a, _, rfl, by ktf_call "rdl", fun d2 i acc ps => ∃ ns : List Addr, ns.length = i ∧ acc = ns.map V.ref ∧ Ent ps (pt d2 (.lst acc) :: eachR i (fun k => memC E.i_Memory (ns.getD k 0) (Mir.MemS.new Pl.length)) :: _), fun d => ⟨[], rfl, rfl, Ent.cons eachR_zero⟩, ?_, ?_, ?_⟩
          · rintro d2 i acc ps ⟨ns, hn, rfl, e2⟩ _
            exact RdL.ent e2 (by ktf_call "rdl")
          · rintro d2 i y ex acc ps hi ⟨hy, rfl⟩ ⟨ns2, hn, rfl, e2⟩
            replace hi : i < Pl.length := by simpa [srcL, la] using hi
            have hnl : (ns2.map V.ref).length < sizeLine := by rw [List.length_map]; exact Nat.lt_of_le_of_lt (m := 1000) (by omega) (by decide)
            refine Wg.ent e2 ?_
            ktf_call "go"
            intro q
            refine z_meminit (m := Pl.length) (by omega) ⟨rfl, ?_⟩
            ktf_call "go"
            refine ⟨ns2 ++ [q], by simp [hn], by simp, ?_⟩
            have c := fun R => snocEach (F := fun q k => memC E.i_Memory q (Mir.MemS.new Pl.length)) (d := d2) (q := q) (ns := ns2) (i := i) (R := R) hn
            have em : (ns2 ++ [q]).map V.ref = ns2.map V.ref ++ [.ref q] := by simp
            rw [em] at c
            refine' Ent.trans ?y4 (c _)
            case y4 => ktf_call "ent"
          rintro d2 acc ps ⟨ms, hm, rfl, e2⟩
          have hm : ms.length = Pl.length := by simpa [srcL, la] using hm
          rw [e3] at e2
          clear e4
          refine We.ent e2 ?_
          ktf_call "go"
          refine w2_repV (by ktf_call "mem") (by omega) fun qu => ?_
          ktf_call "go"
          rename_i t6 qg t4 qo qh ql qe
          have e5 : (List.replicate ((Pl.length : Nat) : Int).toNat (0 : Int)).map V.int = natsV (List.replicate Pl.length 0) := by simp [natsV]
          rw [e5]
          refine OutP.mk' ?_ k
          have cm : ∀ R', Ent (eachR Pl.length (fun k => memC E.i_Memory (ms.getD k 0) (Mir.MemS.new Pl.length)) :: R') (eachR Pl.length (fun h => memC E.i_Memory (ms.getD h 0) ((List.replicate Pl.length (Mir.MemS.new Pl.length)).getD h (Mir.MemS.new Pl.length))) :: R') := fun R' => eachR_congr fun k hk => by
            have q1 : (List.replicate Pl.length (Mir.MemS.new Pl.length)).getD k (Mir.MemS.new Pl.length) = Mir.MemS.new Pl.length := by rw [List.getD_eq_getElem?_getD, List.getElem?_replicate, if_pos hk]; rfl
            show memC E.i_Memory (ms.getD k 0) ((List.replicate Pl.length (Mir.MemS.new Pl.length)).getD k (Mir.MemS.new Pl.length)) = _
            rw [q1]
          have cu : ∀ R', Ent R' (eachR Pl.length (fun h => underC (hiE E) L (ms.getD h 0) Pl.length ((List.replicate Pl.length V.non).getD h .non) ((List.replicate Pl.length (none : Option Mir.WorkS)).getD h none)) :: R') := fun R' => eachR_of fun k hk R2 => by
            have q1 : (List.replicate Pl.length V.non).getD k .non = .non := by rw [List.getD_eq_getElem?_getD, List.getElem?_replicate, if_pos hk]; rfl
            have q2 : (List.replicate Pl.length (none : Option Mir.WorkS)).getD k none = none := by rw [List.getD_eq_getElem?_getD, List.getElem?_replicate, if_pos hk]; rfl
            show Ent R2 (underC (hiE E) L (ms.getD k 0) Pl.length ((List.replicate Pl.length V.non).getD k .non) ((List.replicate Pl.length (none : Option Mir.WorkS)).getD k none) :: R2)
            rw [q1, q2]
            exact ent_underN
          have ce : ∀ R', Ent (pt qe (.lst []) :: R') (endedC (hiE E) L Pl.length qe [] :: R') := fun R' => (Ent.cons eachR_zero).trans (ent_ended (es := []) (as := []) rfl)
          have cp : ∀ R', Ent (pt a (.lst (as.map V.ref)) :: eachR Pl.length (fun i => pt (as.getD i 0) (.lst ((das.getD i []).map V.ref))) :: R') (plansC L a Pl :: R') := fun R' => ent_plans ⟨as, das, la, ld, dd⟩
          refine' Ent.trans ?g1 (Ent.trans (cm _) ?g2)
          case g1 => ktf_call "ent"
          refine' Ent.trans ?g3 (Ent.trans (ce _) ?g4)
          case g3 => ktf_call "ent"
          refine' Ent.trans ?g5 (Ent.trans (cp _) ?g6)
          case g5 => ktf_call "ent"
          refine Ent.trans (cu _) ?_
          refine' Ent.trans ?g7 (ent_hall (S := Mir.HallS.new Pl) ⟨d, bx, d2, qu, qg, qo, qh, ql, qe, ms, List.replicate Pl.length .non, hm, by simp; rfl⟩)
          case g7 =>
            show Ent _ (obj E.i_Hall x [("many", .int (Pl.length : Nat)), ("plans", .ref d), ("boxes", .ref bx), ("memories", .ref d2), ("underway", .ref qu), ("begins", .ref qg), ("own", .ref qo), ("hands", .ref qh), ("lent", .ref ql), ("ended", .ref qe)] ::
              plansC L d Pl :: boxC E.i_Boxes bx (List.replicate (5 * Pl.length) 0) [] :: pt d2 (.lst (ms.map V.ref)) :: eachR Pl.length (fun h => memC E.i_Memory (ms.getD h 0) ((List.replicate Pl.length (Mir.MemS.new Pl.length)).getD h (Mir.MemS.new Pl.length))) ::
              pt qu (.lst (List.replicate Pl.length .non)) :: eachR Pl.length (fun h => underC (hiE E) L (ms.getD h 0) Pl.length ((List.replicate Pl.length V.non).getD h .non) ((List.replicate Pl.length (none : Option Mir.WorkS)).getD h none)) ::
              pt qg (.lst (natsV (List.replicate Pl.length 0))) :: pt qo (.lst (natsV (List.replicate Pl.length 0))) :: pt qh (.lst []) :: pt ql (.dT []) :: endedC (hiE E) L Pl.length qe [] :: plansC L a Pl :: tups L :: R)
            ktf_call "ent") only [↓Bx.tr]
end
end
section
section
variable {P : Program} {w : World} {K : PySem.W.Frag} {mg : Str → Option Value} {base : Heap}
theorem Wa.ent {ta : TA} {σ : L2.St} {ps ps' : List HP} {Φ : List V → List HP → Prop} (e : Ent ps ps') (h : Wa ta σ ps' Φ) : Wa ta σ ps Φ := fun H Q s k => h H Q (e H s) k
theorem z_hstep {E : Env K mg} {ps R : List HP} {Φ : V → List HP → Prop} {x : Addr} {L : Pool} {S : Mir.HallS} {h : Nat} (e : Ent ps (hallC (hiE E) x L S :: tups L :: R)) (wf : Mir.Wf S) (hh : h < S.many) (ok : Mir.StepOkH S h)
    (k : ∀ L', (∀ y ∈ L, y ∈ L') → Φ (.bl (S.step h).2) (hallC (hiE E) x L' (S.step h).1 :: tups L' :: R)) : S_hstep E [.ref x, .int h] ps Φ := ⟨x, L, S, h, R, rfl, e, wf, hh, ok, k⟩
theorem meth_hall {I : HI K} {x : Addr} {L : Pool} {S : Mir.HallS} {ps : List HP} {f : Str} {k : List HP → Prop} (m : hallC I x L S ∈ ps) (p : (["many", "plans", "boxes", "memories", "underway", "begins", "own", "hands", "lent", "ended"] : List Str) = n_Hall) (n : f ∉ n_Hall) (q : k ps) : MethG I.Hall.C f (.ref x) ps k :=
  methC m (fun H R s => by
    obtain ⟨z, s⟩ := opn_hall H s
    obtain ⟨dx, e⟩ := s.obj (List.mem_cons_self ..)
    exact ⟨dx, _, e, lookup_not fun y => n (by rw [← p]; exact y)⟩) q
theorem rdf_hall {I : HI K} {x : Addr} {L : Pool} {S : Mir.HallS} {ps : List HP} (m : hallC I x L S ∈ ps) : RdF K ps x "many" (.int S.many) := RdF.of1 m fun H s => by
  obtain ⟨z, s⟩ := opn_hall H s
  exact s.rf (r := []) (List.mem_cons_self ..) rfl (List.mem_cons_self ..)
noncomputable def RunOk : Mir.HallS → List Nat → Prop
  | _, [] => True
  | S, h :: r => (Mir.Wf S ∧ h < S.many ∧ Mir.StepOkH S h) ∧ RunOk (S.step h).1 r
theorem weave_app : ∀ (a b : List Nat) (S : Mir.HallS), S.weave (a ++ b) = (((S.weave a).1.weave b).1, (S.weave a).2 + ((S.weave a).1.weave b).2)
  | [], b, S => by simp [Mir.HallS.weave]
  | h :: a, b, S => by
    show Mir.HallS.weave S (h :: (a ++ b)) = _
    simp only [Mir.HallS.weave]
    rw [weave_app a b, Nat.add_assoc]
theorem weave_nil (S : Mir.HallS) : S.weave [] = (S, 0) := rfl
theorem weave_one (S : Mir.HallS) (h : Nat) : S.weave [h] = ((S.step h).1, if (S.step h).2 then 1 else 0) := rfl
theorem runOk_cut : ∀ (a b : List Nat) (S : Mir.HallS), RunOk S (a ++ b) → RunOk (S.weave a).1 b
  | [], _, _, h => h
  | x :: a, b, S, h => runOk_cut a b _ h.2
noncomputable def S_weave (E : Env K mg) : SP := fun vs ps Φ => ∃ (x a : Addr) (L : Pool) (S : Mir.HallS) (row : List Nat) (R : List HP), vs = [.ref x, .ref a] ∧ Ent ps (hallC (hiE E) x L S :: tups L :: R) ∧ RdL K R a (natsV row) ∧ (∀ h ∈ row, h < S.many) ∧ row.length ≤ 90000 ∧ RunOk S row ∧
  ∀ L', (∀ y ∈ L, y ∈ L') → Φ (.int (S.weave row).2) (hallC (hiE E) x L' (S.weave row).1 :: tups L' :: R)
end
section
variable {P : Program} {w : World} {K : PySem.W.Frag} {mg : Str → Option Value} {base : Heap}
theorem ok_Hall_weave (E : Env K mg) : FnOk P E.ww K mg base CX0 7 E.f_Hall_weave E.fd_Hall_weave ["self", "row"] (spS (S_weave E)) := by
  refine Bx.out ?_
  simp (disch := with_unfolding_all
      refine okS E.F_Hall_weave sc_Hall_weave (fun vs ps Φ h => ?_) (fun cdv A outer s H E0 hr => ?_)
      · obtain ⟨x, a, L, S, row, R, rfl, _⟩ := h; rfl
      · refine ⟨_, ((pss_cons (ps_for PassesOwn.never rfl (pi_list (pv 1)) (pg_name (i := 2) sc_Hall_weave.nd rfl (by first | exact Or.inl rfl | exact Or.inr rfl)) (pss_one (ps_expr (pe_meth (pv 0) E.i_Hall.cls E.m_Hall_need_hand (ok_Hall_need_hand E) (hr.mono (by decide)) E.b_Hall_need_hand .nil pass0 (pa_cons (pv 2) pa_nil)))))
     (pss_one (ps_ret (pe_callB (cr_sum rfl) (by rfl) E.bn_sum (by decide +kernel) (pa_cons (pe_lc (own := [("hand", 2)]) (g := gName 2) (tt := tYes)  (by rfl) sc_Hall_weave.nd (pi_list (pv 1)) (blkOk_by (own := [("hand", 2)]) (N := n_Hall_weave) (sc := defScope s_Hall_weave) (by decide +kernel)) (fun _ _ _ _ _ => (pg_name (i := 2) sc_Hall_weave.nd rfl (by first | exact Or.inl rfl | exact Or.inr rfl))) (fun _ _ _ _ _ => pts_nil) (fun _ _ _ _ _ => (pe_callTy cr_int1 (by rfl) E.bn_int (by decide +kernel) (pa_cons (pe_meth (pv 0) E.i_Hall.cls E.m_Hall_step (ok_Hall_step E) (hr.mono (by decide)) E.b_Hall_step .nil pass0 (pa_cons (pv 2) pa_nil)) pa_nil)))) pa_nil)))))), fun vs ps Φ h => ?_⟩
        obtain ⟨x, a, L, S, row, R, rfl, pk, rd, hrow, hlen, hrun, k⟩ := h
        try dsimp only [cxOf]
        show Ws _ _ _ _ _ [_, _, _] _
        refine Ws.ent pk ?_
        clear pk
        ktf_call "go"
        refine ws_for (wi_L ?_)
        ktf_call "go"
        refine ⟨a, _, rfl, by ktf_call "rdl", fun i σ ps => ∃ v2, σ = [some (.ref x), some (.ref a), v2] ∧ ps = _, ⟨none, rfl, rfl⟩, ?_, ?_, ?_⟩
        · rintro i σ ps ⟨v2, rfl, rfl⟩ _
          exact rd.cons.cons
        · rintro i y ex σ ps hi ⟨hy, rfl⟩ ⟨v2, rfl, rfl⟩
          replace hi : i < row.length := by simpa [srcL, natsV] using hi
          have hy2 : y = .int (row[i] : Nat) := by
            rw [natsV_get (List.getElem?_eq_getElem hi)] at hy
            exact (Option.some.inj hy).symm
          subst hy2
          have hh := hrow _ (List.getElem_mem hi)
          generalize row[i] = h at hh
          ktf_call "go"
          refine meth_hall (I := hiE E) (by ktf_call "mem") rfl (by decide +kernel) ?_
          ktf_call "go"
          refine z_needhand (rdf_hall (I := hiE E) (L := L) (S := S) (by ktf_call "mem")) hh ?_
          exact ⟨_, rfl, rfl⟩
        rintro σ ps ⟨v2, rfl, rfl⟩
        ktf_call "go"
        refine we_lc (wi_L ?_)
        ktf_call "go"
        refine ⟨a, _, rfl, by ktf_call "rdl", fun d i acc ps => ∃ (L' : Pool) (cs : List Int), acc = cs.map V.int ∧ (∀ y ∈ L, y ∈ L') ∧ cs.sum = ((S.weave (row.take i)).2 : Nat) ∧ cs.length = i ∧ Ent ps (pt d (.lst acc) :: hallC (hiE E) x L' (S.weave (row.take i)).1 :: tups L' :: R), fun d => ⟨L, [], rfl, fun _ h => h, (by rw [List.take_zero, weave_nil]; rfl), rfl, (by rw [List.take_zero, weave_nil]; exact Ent.rf)⟩, ?_, ?_, ?_⟩
        · rintro d i acc ps ⟨L', cs, rfl, hL, hs, hc, e⟩ _
          exact RdL.ent e (by ktf_call "rdl")
        · rintro d i y ex acc ps hi ⟨hy, rfl⟩ ⟨L', cs, rfl, hL, hs, hc, e⟩
          replace hi : i < row.length := by simpa [srcL, natsV] using hi
          have hy2 : y = .int (row[i] : Nat) := by
            rw [natsV_get (List.getElem?_eq_getElem hi)] at hy
            exact (Option.some.inj hy).symm
          subst hy2
          have hr2 := runOk_cut (row.take i) (row.drop i) S (by rw [List.take_append_drop]; exact hrun)
          rw [List.drop_eq_getElem_cons hi] at hr2
          obtain ⟨⟨wf, hh, ok⟩, _⟩ := hr2
          have ht : row.take (i + 1) = row.take i ++ [row[i]] := by rw [List.take_succ, List.getElem?_eq_getElem hi]; rfl
          have hw : S.weave (row.take (i + 1)) = (((S.weave (row.take i)).1.step row[i]).1, (S.weave (row.take i)).2 + if ((S.weave (row.take i)).1.step row[i]).2 then 1 else 0) := by
            rw [ht, weave_app, weave_one]
          generalize row[i] = h at wf hh ok hw ⊢
          generalize S.weave (row.take i) = r at wf hh ok hw hs e
          have hcl : (cs.map V.int).length < sizeLine := by rw [List.length_map]; exact Nat.lt_of_le_of_lt (m := 90000) (by omega) (by decide)
          refine Wg.ent e ?_
          ktf_call "go"
          refine meth_hall (I := hiE E) (by ktf_call "mem") rfl (by decide +kernel) ?_
          ktf_call "go"
          refine z_hstep (E := E) (L := L') (S := r.1) (by ktf_call "ent") wf hh ok fun L2 hL2 => ?_
          ktf_call "go"
          refine ⟨L2, cs ++ [if (r.1.step h).2 = true then 1 else 0], by simp, fun y hy => hL2 y (hL y hy), ?_, by simp [hc], ?_⟩
          · rw [hw, List.sum_append, hs]
            cases (r.1.step h).2 <;> simp
          · rw [hw, snocI]
            ktf_call "ent"
        rintro d acc ps ⟨L', cs, rfl, hL, hs, hc, e⟩
        have e3 : (srcL K a (natsV row)).n = row.length := by simp [srcL, natsV]
        rw [e3, List.take_length] at e hs
        refine Wa.ent e ?_
        ktf_call "go"
        rw [hs]
        refine OutP.mk' ?_ (k L' hL)
        ktf_call "ent") only [↓Bx.tr]
end
end
section
noncomputable abbrev Core := Int × Deed × Int × Int × Ans
noncomputable def Rec.core (r : Rec) : Core := (r.hand, r.deed, r.b, r.e, r.an)
noncomputable def coreD (d : Mir.DoneS) : Core := ((d.work.hand : Int), d.work.deed, (d.b : Int), (d.e : Int), d.work.ans)
noncomputable def tvals (t : Nat × Touch) : List V := .int (t.1 : Int) :: t.2.vals
noncomputable def TIn (L : Pool) (as : List Addr) (ts : List (Nat × Touch)) : Prop := as.length = ts.length ∧ ∀ (i : Nat) (a : Addr) (t : Nat × Touch), as[i]? = some a → ts[i]? = some t → (a, tvals t) ∈ L
theorem opn_done {K : PySem.W.Frag} {I : HI K} {L : Pool} {many : Nat} {ea : Addr} {d : Mir.DoneS} {R : List HP} : Opn (doneC I L many ea d :: R) fun z : { z : Addr × Addr × Addr × V // (z.2.1, d.work.deed.vals) ∈ L ∧ AnsR L z.2.2.2 d.work.ans } =>
    obj I.Done ea [("work", .ref z.1.1), ("begin", .int d.b), ("end", .int d.e)] :: workC I z.1.1 z.1.2.1 z.1.2.2.1 many z.1.2.2.2 d.work :: R := fun H s => by
  unfold doneC at s
  obtain ⟨z, s⟩ := Sat.ex.mp s
  obtain ⟨e, s⟩ := Sat.pur.mp (Sat.grp.mp s)
  exact ⟨⟨z, e⟩, s⟩
theorem workR_in {K : PySem.W.Frag} {I : HI K} {a dA mem : Addr} {many : Nat} {av : V} {w : Mir.WorkS} {ps : List HP} (m : workC I a dA mem many av w ∈ ps) : WorkR K ps a dA av w := WorkR.ent (Ent.memP m) workR
theorem TIn.nil {L : Pool} : TIn L [] [] := ⟨rfl, fun i a t h => by simp at h⟩
theorem TIn.snoc {L L' : Pool} {as : List Addr} {ts : List (Nat × Touch)} {a : Addr} {t : Nat × Touch} (h : TIn L as ts) (s : ∀ y ∈ L, y ∈ L') (m : (a, tvals t) ∈ L') : TIn L' (as ++ [a]) (ts ++ [t]) := by
  refine ⟨by simp [h.1], fun i b u hb hu => ?_⟩
  have hl := h.1
  by_cases hi : i < as.length
  · rw [List.getElem?_append_left hi] at hb
    rw [List.getElem?_append_left (by omega)] at hu
    exact s _ (h.2 i b u hb hu)
  · rw [List.getElem?_append_right (by omega)] at hb hu
    rw [hl] at hb
    cases hk : i - ts.length with
    | zero => rw [hk] at hb hu; simp at hb hu; subst hb; subst hu; exact m
    | succ n => rw [hk] at hb; simp at hb
local macro_rules | `(tactic| ktf_call "step") => `(tactic| first
  | ((with_reducible refine' fldG_ro (WorkR.hand (workR_in ?w1)) ?wd); (case w1 => ktf_call "mem"))
  | ((with_reducible refine' fldG_ro (WorkR.deed (workR_in ?w1)) ?wd); (case w1 => ktf_call "mem"))
  | ((with_reducible refine' fldG_ro (WorkR.answer (workR_in ?w1)) ?wd); (case w1 => ktf_call "mem"))
  | ((with_reducible refine' fldG_ro (WorkR.moment (workR_in ?w1)) ?wd); (case w1 => ktf_call "mem"))
  | ((with_reducible refine' fldG_ro (WorkR.stamp (workR_in ?w1)) ?wd); (case w1 => ktf_call "mem"))
  | ((with_reducible refine' fldG_ro (WorkR.giver (workR_in ?w1)) ?wd); (case w1 => ktf_call "mem"))
  | ((with_reducible refine' fldG_ro (WorkR.nth (workR_in ?w1)) ?wd); (case w1 => ktf_call "mem")))
section
variable {P : Program} {w : World} {K : PySem.W.Frag} {mg : Str → Option Value} {base : Heap}
noncomputable def S_records (E : Env K mg) : SP := fun vs ps Φ => ∃ (x : Addr) (L : Pool) (S : Mir.HallS) (R : List HP), vs = [.ref x] ∧ Ent ps (hallC (hiE E) x L S :: tups L :: R) ∧ S.ended.length ≤ 90000 ∧
  ∀ p L' as rs, (∀ y ∈ L, y ∈ L') → RecsIn L' as rs → rs.map Rec.core = S.ended.map coreD → Φ (.ref p) (pt p (.lst (as.map V.ref)) :: hallC (hiE E) x L' S :: tups L' :: R)
theorem z_records {E : Env K mg} {ps R : List HP} {Φ : V → List HP → Prop} {x : Addr} {L : Pool} {S : Mir.HallS} (e : Ent ps (hallC (hiE E) x L S :: tups L :: R)) (h : S.ended.length ≤ 90000)
    (k : ∀ p L' as rs, (∀ y ∈ L, y ∈ L') → RecsIn L' as rs → rs.map Rec.core = S.ended.map coreD → Φ (.ref p) (pt p (.lst (as.map V.ref)) :: hallC (hiE E) x L' S :: tups L' :: R)) : S_records E [.ref x] ps Φ := ⟨x, L, S, R, rfl, e, h, k⟩
theorem ok_Hall_records (E : Env K mg) : FnOk P w K mg base CX0 1 E.f_Hall_records E.fd_Hall_records ["self"] (spS (S_records E)) := by
  refine Bx.out ?_
  simp (disch := with_unfolding_all
      refine okS E.F_Hall_records sc_Hall_records (fun vs ps Φ h => ?_) (fun cdv A outer s H E0 hr => ?_)
      · obtain ⟨x, L, S, R, rfl, _⟩ := h; rfl
      · refine ⟨_, ((pss_cons (ps_set (i := 1) sc_Hall_records.nd rfl (by first | exact Or.inl rfl | exact Or.inr rfl) (pe_lst pa_nil))
     (pss_cons (ps_for PassesOwn.never rfl (pi_list (pe_fld (pv 0) rfl)) (pg_name (i := 2) sc_Hall_records.nd rfl (by first | exact Or.inl rfl | exact Or.inr rfl)) (pss_one (ps_expr (pe_bm PySem.F.plainAttrs_list PySem.F.slot_list_append PySem.F.type_list_append mt_append (pv 1) (pa_cons (pe_tup (pa_cons (pe_fld (pe_fld (pv 2) rfl) rfl) (pa_cons (pe_fld (pe_fld (pv 2) rfl) rfl) (pa_cons (pe_fld (pv 2) rfl) (pa_cons (pe_fld (pv 2) rfl) (pa_cons (pe_fld (pe_fld (pv 2) rfl) rfl) pa_nil)))))) pa_nil)))))
     (pss_one (ps_ret (pv 1)))))), fun vs ps Φ h => ?_⟩
        obtain ⟨x, L, S, R, rfl, pk, hl, k⟩ := h
        try dsimp only [cxOf]
        show Ws _ _ _ _ _ [_, _, _] _
        refine Ws.ent pk (Ws.opn opn_hall fun z => ?_)
        obtain ⟨qp, qb, qm, qu, qg, qo, qh, ql, qe, ms, us, zlm, zlu⟩ := z
        dsimp only
        refine Ws.ent (ps' := endedC (hiE E) L S.many qe S.ended :: _) (by ktf_call "ent") (Ws.opn opn_ended fun z => ?_)
        obtain ⟨es, hes⟩ := z
        dsimp only
        generalize hfe : (fun i => doneC (hiE E) L S.many (es.getD i 0) (S.ended.getD i default)) = fe
        have efe : ∀ i, fe i = doneC (hiE E) L S.many (es.getD i 0) (S.ended.getD i default) := fun i => by rw [← hfe]
        ktf_call "go"
        rename_i q
        refine ws_for (wi_L ?_)
        ktf_call "go"
        refine ⟨qe, _, rfl, by ktf_call "rdl", fun i σ ps => ∃ v2 L2 as rs, σ = [some (.ref x), some (.ref q), v2] ∧ (∀ y ∈ L, y ∈ L2) ∧ RecsIn L2 as rs ∧ rs.map Rec.core = (S.ended.take i).map coreD ∧ Ent ps (pt q (.lst (as.map V.ref)) :: tups L2 :: pt qe (.lst (es.map V.ref)) :: eachR S.ended.length fe ::
          obj E.i_Hall x [("many", .int S.many), ("plans", .ref qp), ("boxes", .ref qb), ("memories", .ref qm), ("underway", .ref qu), ("begins", .ref qg), ("own", .ref qo), ("hands", .ref qh), ("lent", .ref ql), ("ended", .ref qe)] ::
          plansC L qp S.plans :: boxC E.i_Boxes qb S.boxes S.log :: pt qm (.lst (ms.map V.ref)) :: eachR S.many (fun h => memC E.i_Memory (ms.getD h 0) (S.mems.getD h (.new S.many))) ::
          pt qu (.lst us) :: eachR S.many (fun h => underC (hiE E) L (ms.getD h 0) S.many (us.getD h .non) (S.underway.getD h none)) ::
          pt qg (.lst (natsV S.begins)) :: pt qo (.lst (natsV S.own)) :: pt qh (.lst (natsV S.hands)) :: pt ql (.dT (lentK S.lent)) :: R), ⟨none, L, [], [], rfl, fun _ h => h, RecsIn.nil, rfl, ?_⟩, ?_, ?_, ?_⟩
        · show Ent _ (pt q (.lst []) :: _)
          ktf_call "ent"
        · rintro i σ ps ⟨v2, L2, as, rs, rfl, hL, hrs, hc, e⟩ _
          exact RdL.ent e (by ktf_call "rdl")
        · rintro i y ex σ ps hi ⟨hy, rfl⟩ ⟨v2, L2, as, rs, rfl, hL, hrs, hc, e⟩
          replace hi : i < S.ended.length := by simpa [srcL, hes] using hi
          have hy2 : y = .ref (es.getD i 0) := by
            rw [List.getElem?_map, getD_lt (d := 0) (by omega)] at hy
            exact (Option.some.inj hy).symm
          subst hy2
          have hal : (as.map V.ref).length < sizeLine := by
            rw [List.length_map, hrs.1]
            have := congrArg List.length hc
            simp only [List.length_map, List.length_take] at this
            exact Nat.lt_of_le_of_lt (m := 90000) (by omega) (by decide)
          refine Wg.ent e ?_
          refine Wg.ent (each_at (f := fe) (i := i) (by ktf_call "pick") hi) ?_
          rw [efe i]
          have hdi : S.ended[i]? = some (S.ended.getD i default) := getD_lt hi
          generalize hd : S.ended.getD i default = d at hdi ⊢
          refine Wg.opn (Opn.ent (ps' := doneC (hiE E) L S.many (es.getD i 0) d :: _) (by ktf_call "ent") opn_done) fun z => ?_
          obtain ⟨⟨wa, dA, mem, av⟩, hdA, hav⟩ := z
          dsimp only at hdA hav ⊢
          ktf_call "go"
          rename_i p
          have back : ∀ R', Ent (obj E.i_Done (es.getD i 0) [("work", .ref wa), ("begin", .int d.b), ("end", .int d.e)] :: workC (hiE E) wa dA mem S.many av d.work :: eachR S.ended.length (hole fe i) :: R') (eachR S.ended.length fe :: R') := fun R' => by
            refine Ent.trans (ent_done (I := hiE E) (L := L) (many := S.many) hdA hav) ?_
            have c := eachR_close (R := R') (f := fe) (g := fe) hi (fun _ _ _ => rfl)
            rw [efe i, hd] at c
            exact c
          refine ⟨_, L2 ++ [(p, [.int d.work.hand, .ref dA, .int d.b, .int d.e, av])], as ++ [p], rs ++ [⟨d.work.hand, dA, d.work.deed, d.b, d.e, av, d.work.ans⟩], rfl, fun y hy => List.mem_append_left _ (hL y hy), ?_, ?_, ?_⟩
          · refine (hrs.mono more_snoc).snoc ⟨mem_snoc, more_snoc _ (hL _ hdA), (hav.mono fun y hy => more_snoc _ (hL y hy))⟩
          · rw [List.map_append, hc, List.take_succ, hdi]
            simp [coreD, Rec.core]
          · have em : (as ++ [p]).map V.ref = as.map V.ref ++ [.ref p] := by simp
            rw [em]
            refine' Ent.trans ?y1 (Ent.trans (back _) ?y2)
            case y1 => ktf_call "ent"
            refine' Ent.trans ?y3 (Ent.trans (tups_snoc (L := L2)) ?y4)
            case y3 => ktf_call "ent"
            ktf_call "ent"
        · rintro σ ps ⟨v2, L2, as, rs, rfl, hL, hrs, hc, e⟩
          have e3 : (srcL K qe (es.map V.ref)).n = S.ended.length := by simp [srcL, hes]
          rw [e3, List.take_length] at hc
          refine Ws.ent e ?_
          ktf_call "go"
          subst hfe
          refine OutP.mk' ?_ (k q L2 as rs hL hrs hc)
          refine' Ent.trans ?z1 (Ent.trans (ent_ended (I := hiE E) (q := qe) (L := L) (many := S.many) (es := S.ended) hes) ?z2)
          case z1 => ktf_call "ent"
          refine' Ent.trans ?z3 (Ent.trans (ent_hall (I := hiE E) (x := x) (L := L) (S := S) ⟨qp, qb, qm, qu, qg, qo, qh, ql, qe, ms, us, zlm, zlu⟩) ?z4)
          case z3 => ktf_call "ent"
          refine Ent.trans (hall_mono hL) ?_
          ktf_call "ent") only [↓Bx.tr]
end
end
end
end
end
end
end
section
noncomputable def S_cell (K : PySem.W.Frag) : SP := fun vs ps Φ => ∃ (a : Addr) (ns : List Int) (k : Int), vs = [.ref a, .int k] ∧ 0 ≤ k ∧ RdL K ps a (ns.map V.int) ∧ ns.length ≤ 1000 ∧ Φ (.int (ns.getD k.toNat 0)) ps
noncomputable def S_dice (K : PySem.W.Frag) : SP := fun vs ps Φ => ∃ (a : Addr) (ns : List Int) (k : Int), vs = [.ref a, .int k] ∧ 0 ≤ k ∧ RdL K ps a (ns.map V.int) ∧ ns.length ≤ 1000 ∧ ∀ p, Φ (.ref p) (dice p a :: ps)
noncomputable def S_off (K : PySem.W.Frag) : SP := fun vs ps Φ => ∃ (p a : Addr) (ns : List Int) (most : Int) (R : List HP), vs = [.ref p, .int most] ∧ Pick (dice p a) ps R ∧ RdL K R a (ns.map V.int) ∧ ns.length ≤ 1000 ∧ (0 < most ∧ most < 1073741824) ∧ ∀ r : Nat, (r : Int) < most → Φ (.int r) (dice p a :: R)
theorem s_cell {K : PySem.W.Frag} {ps : List HP} {Φ : V → List HP → Prop} {a : Addr} {ns : List Int} {k : Int} (rd : RdL K ps a (ns.map V.int)) (hl : ns.length ≤ 1000) (h0 : 0 ≤ k) (q : Φ (.int (ns.getD k.toNat 0)) ps) : S_cell K [.ref a, .int k] ps Φ := ⟨a, ns, k, rfl, h0, rd, hl, q⟩
theorem s_dice {K : PySem.W.Frag} {ps : List HP} {Φ : V → List HP → Prop} {a : Addr} {ns : List Int} {k : Int} (rd : RdL K ps a (ns.map V.int)) (hl : ns.length ≤ 1000) (h0 : 0 ≤ k) (q : ∀ p, Φ (.ref p) (dice p a :: ps)) : S_dice K [.ref a, .int k] ps Φ := ⟨a, ns, k, rfl, h0, rd, hl, q⟩
theorem s_off {K : PySem.W.Frag} {ps R : List HP} {Φ : V → List HP → Prop} {p a : Addr} {ns : List Int} {most : Int} (pk : Pick (dice p a) ps R) (rd : RdL K R a (ns.map V.int)) (hl : ns.length ≤ 1000) (h0 : 0 < most ∧ most < 1073741824) (q : ∀ r : Nat, (r : Int) < most → Φ (.int r) (dice p a :: R)) : S_off K [.ref p, .int most] ps Φ := ⟨p, a, ns, most, R, rfl, pk, rd, hl, h0, q⟩
local macro_rules | `(tactic| ktf_call "step") => `(tactic| first
  | ((with_reducible refine' s_cell ?w1 ?w2 ?w3 ?wd); (case w1 => ktf_call "rdl"); (case w2 => assumption); (case w3 => omega))
  | ((with_reducible refine' s_dice ?w1 ?w2 ?w3 fun _ => ?wd); (case w1 => ktf_call "rdl"); (case w2 => assumption); (case w3 => omega))
  | ((with_reducible refine' s_off ?w0 ?w1 ?w2 ?w3 fun r hr => ?wd); (case w0 => ktf_call "pick"); (case w1 => ktf_call "rdl"); (case w2 => assumption); (case w3 => ktf_call "lens")))
section
variable {P : Program} {w : World} {K : PySem.W.Frag} {mg : Str → Option Value} {base : Heap}
theorem ok__law_cell (E : Env K mg) : FnOk P w K mg base CX0 1 E.f__law_cell E.fd__law_cell ["_law_script", "_law_k"] (spS (S_cell K)) := by
  refine Bx.out ?_
  simp (disch := with_unfolding_all
      refine okS E.F__law_cell sc__law_cell (fun vs ps Φ h => ?_) (fun cdv A outer s H E0 hr => ?_)
      · obtain ⟨a, ns, k, rfl, _⟩ := h; rfl
      · refine ⟨_, ((pss_cons (ps_if (pt_cmpR op_lt (pv 1) (pe_callB cr_len (by rfl) E.bn_len (by decide +kernel) (pa_cons (pv 0) pa_nil)) (nomark _)) (pss_one (ps_ret (pe_ix ix_list (pv 0) (pv 1) (fun _ _ => rfl)))) pss_nil)
     (pss_one (ps_ret pe_int)))), fun vs ps Φ h => ?_⟩
        obtain ⟨a, ns, z, rfl, hz, rd, hl, q⟩ := h
        obtain ⟨k, rfl⟩ : ∃ k : Nat, z = k := ⟨z.toNat, (Int.toNat_of_nonneg hz).symm⟩
        rw [Int.toNat_natCast] at q
        try dsimp only [cxOf]
        show Ws _ _ _ _ _ [_, _] _
        ktf_call "go"
        refine iteD (fun h => ?_) (fun h => ?_)
        · rw [List.length_map] at h
          have hk : k < ns.length := by omega
          ktf_call "go"
          rw [Int.toNat_natCast]
          exact .here q
        · rw [List.length_map] at h
          ktf_call "go"
          have e : ns.getD k 0 = 0 := getD_ge (by omega)
          rw [e] at q
          exact .here q) only [↓Bx.tr]
end
section
variable {P : Program} {w : World} {K : PySem.W.Frag} {mg : Str → Option Value} {base : Heap}
theorem ok__law_dice (E : Env K mg) : FnOk P w K mg base CX0 2 E.f__law_dice E.fd__law_dice ["_law_script", "_law_k"] (spS (S_dice K)) := by
  refine Bx.out ?_
  simp (disch := with_unfolding_all
      refine okS E.F__law_dice sc__law_dice (fun vs ps Φ h => ?_) (fun cdv A outer s H E0 hr => ?_)
      · obtain ⟨a, ns, k, rfl, _⟩ := h; rfl
      · refine ⟨_, ((pss_cons (ps_set (i := 2) sc__law_dice.nd rfl (by first | exact Or.inl rfl | exact Or.inr rfl) (pe_callB cr_abs (by rfl) E.bn_abs (by decide +kernel) (pa_cons (pe_call (ok__law_cell E) (hr.mono (by decide)) rfl E.g__law_cell E.k__law_cell E.b__law_cell .nil pass0 (pa_cons (pv 0) (pa_cons (pv 1) pa_nil))) pa_nil)))
     (pss_one (ps_ret (pe_lst (pa_cons (pe_op op_mod (pv 2) pe_int) (pa_cons (pv 0) (pa_cons (pe_op op_add (pv 1) pe_int) (pa_cons (pe_op op_mul (pe_callTy cr_int1 (by rfl) E.bn_int (by decide +kernel) (pa_cons (pe_cmpR op_ge (pv 2) (pe_op op_pow pe_int pe_int) (nomark _)) pa_nil)) (pv 2)) pa_nil))))))))), fun vs ps Φ h => ?_⟩
        obtain ⟨a, ns, z, rfl, hz, rd, hl, q⟩ := h
        obtain ⟨k, rfl⟩ : ∃ k : Nat, z = k := ⟨z.toNat, (Int.toNat_of_nonneg hz).symm⟩
        try dsimp only [cxOf]
        show Ws _ _ _ _ _ [_, _, _] _
        ktf_call "go"
        exact OutP.mk' Ent.dice (q _)) only [↓Bx.tr]
theorem ok__law_off (E : Env K mg) : FnOk P w K mg base CX0 2 E.f__law_off E.fd__law_off ["_law_d", "_law_most"] (spS (S_off K)) := by
  refine Bx.out ?_
  simp (disch := with_unfolding_all
      refine okS E.F__law_off sc__law_off (fun vs ps Φ h => ?_) (fun cdv A outer s H E0 hr => ?_)
      · obtain ⟨p, a, ns, most, R, rfl, _⟩ := h; rfl
      · refine ⟨_, ((pss_cons (ps_if (pt_cmpR op_gt (pe_ix ix_list (pv 0) pe_int (fun _ _ => rfl)) pe_int (nomark _)) (pss_cons (ps_set (i := 3) sc__law_off.nd rfl (by first | exact Or.inl rfl | exact Or.inr rfl) (pe_op op_mod (pe_ix ix_list (pv 0) pe_int (fun _ _ => rfl)) (pv 1)))
     (pss_cons (ps_asg (pe_op op_fdiv (pe_ix ix_list (pv 0) pe_int (fun _ _ => rfl)) (pv 1)) (pg_sub (pv 0) pe_int set_list))
     (pss_one (ps_ret (pv 3))))) pss_nil)
     (pss_cons (ps_set (i := 2) sc__law_off.nd rfl (by first | exact Or.inl rfl | exact Or.inr rfl) (pe_callB cr_abs (by rfl) E.bn_abs (by decide +kernel) (pa_cons (pe_call (ok__law_cell E) (hr.mono (by decide)) rfl E.g__law_cell E.k__law_cell E.b__law_cell .nil pass0 (pa_cons (pe_ix ix_list (pv 0) pe_int (fun _ _ => rfl)) (pa_cons (pe_op op_mod (pe_ix ix_list (pv 0) pe_int (fun _ _ => rfl)) (pe_callB (cr_max2 rfl) (by rfl) E.bn_max (by decide +kernel) (pa_cons pe_int (pa_cons (pe_callB cr_len (by rfl) E.bn_len (by decide +kernel) (pa_cons (pe_ix ix_list (pv 0) pe_int (fun _ _ => rfl)) pa_nil)) pa_nil)))) pa_nil))) pa_nil)))
     (pss_cons (ps_asg (pe_op op_add (pe_ix ix_list (pv 0) pe_int (fun _ _ => rfl)) pe_int) (pg_sub (pv 0) pe_int set_list))
     (pss_cons (ps_asg (pe_op op_mod (pe_op op_add (pe_op op_add (pe_op op_mul (pe_ix ix_list (pv 0) pe_int (fun _ _ => rfl)) pe_int) pe_int) (pv 2)) pe_int) (pg_sub (pv 0) pe_int set_list))
     (pss_one (ps_ret (pe_op op_mod (pe_op op_fdiv (pe_ix ix_list (pv 0) pe_int (fun _ _ => rfl)) pe_int) (pv 1))))))))), fun vs ps Φ h => ?_⟩
        obtain ⟨p, a, ns, most, R, rfl, pk, rd, hl, hm, q⟩ := h
        try dsimp only [cxOf]
        show Ws _ _ _ _ _ [_, _, _, _] _
        refine Ws.ent (Ent.perm pk.perm) (Ws.dice fun x j b => ?_)
        ktf_call "go"
        refine iteD (fun hb => ?_) (fun hb => ?_)
        · obtain ⟨r, e1, e2⟩ := mod_nat (i := b) hm.1
          ktf_call "go"
          rw [e1]
          ktf_call "go"
          refine w2_I hm ?_
          ktf_call "go"
          exact OutP.mk' Ent.dice (q r e2)
        · obtain ⟨r, e1, e2⟩ := mod_nat (i := j) (m := max 1 (ns.length : Int)) (by omega)
          ktf_call "go"
          rw [List.length_map, e1]
          ktf_call "go"
          generalize hz : ((x * 48271 + 11 + ((ns.getD (Int.toNat r) 0).natAbs : Int)) % 2147483647) / 64 = z
          obtain ⟨t, e3, e4⟩ := mod_nat (i := z) hm.1
          rw [e3]
          exact OutP.mk' Ent.dice (q t e4)) only [↓Bx.tr]
end
noncomputable def S_ldeed (K : PySem.W.Frag) : SP := fun vs ps Φ => ∃ (p a : Addr) (ns : List Int) (R : List HP) (wd : Wd), vs = [.ref p, .str wd.str] ∧ Pick (dice p a) ps R ∧ RdL K R a (ns.map V.int) ∧ ns.length ≤ 1000 ∧ ∀ (q : Addr) (d : Deed), d.wd = wd → d.ok → Φ (.ref q) (pt q (.tup d.vals) :: dice p a :: R)
section
variable {P : Program} {w : World} {K : PySem.W.Frag} {mg : Str → Option Value} {base : Heap}
theorem ok__law_deed (E : Env K mg) : FnOk P w K mg base CX0 3 E.f__law_deed E.fd__law_deed ["_law_d", "_law_word"] (spS (S_ldeed K)) := by
  refine Bx.out ?_
  simp (disch := with_unfolding_all
      refine okS E.F__law_deed sc__law_deed (fun vs ps Φ h => ?_) (fun cdv A outer s H E0 hr => ?_)
      · obtain ⟨p, a, ns, R, wd, rfl, _⟩ := h; rfl
      · refine ⟨_, ((pss_cons (ps_if (pt_cmpR op_in_seq (pv 1) (pe_lst (pa_cons pe_str (pa_cons pe_str (pa_cons pe_str (pa_cons pe_str pa_nil))))) (by rfl)) (pss_one (ps_ret (pe_tup (pa_cons (pv 1) (pa_cons (pe_ix ix_list (pe_lst (pa_cons (pe_call (ok__law_off E) (hr.mono (by decide)) rfl E.g__law_off E.k__law_off E.b__law_off .nil pass0 (pa_cons (pv 0) (pa_cons pe_int pa_nil))) (pa_cons (pe_call (ok__law_off E) (hr.mono (by decide)) rfl E.g__law_off E.k__law_off E.b__law_off .nil pass0 (pa_cons (pv 0) (pa_cons pe_int pa_nil))) pa_nil))) (pe_call (ok__law_off E) (hr.mono (by decide)) rfl E.g__law_off E.k__law_off E.b__law_off .nil pass0 (pa_cons (pv 0) (pa_cons pe_int pa_nil))) (fun _ _ => rfl)) pa_nil))))) pss_nil)
     (pss_one (ps_ret (pe_tup (pa_cons (pv 1) pa_nil)))))), fun vs ps Φ h => ?_⟩
        obtain ⟨p, a, ns, R, wd, rfl, pk, rd, hl, q⟩ := h
        try dsimp only [cxOf]
        show Ws _ _ _ _ _ [_, _] _
        refine Ws.ent (Ent.perm pk.perm) ?_
        cases wd
        case one => ktf_call "go"; exact OutP.mk' (Ent.keep (.cons .hd (by ktf_call "keep"))) (q _ .one rfl trivial)
        case count => ktf_call "go"; exact OutP.mk' (Ent.keep (.cons .hd (by ktf_call "keep"))) (q _ .count rfl trivial)
        case look => ktf_call "go"; exact OutP.mk' (Ent.keep (.cons .hd (by ktf_call "keep"))) (q _ .look rfl trivial)
        case sum => ktf_call "go"; exact OutP.mk' (Ent.keep (.cons .hd (by ktf_call "keep"))) (q _ .sum rfl trivial)
        case top => ktf_call "go"; exact OutP.mk' (Ent.keep (.cons .hd (by ktf_call "keep"))) (q _ .top rfl trivial)
        case take => ktf_call "go"; exact OutP.mk' (Ent.keep (.cons .hd (by ktf_call "keep"))) (q _ .take rfl trivial)
        case set =>
          ktf_call "go"
          rename_i r1 h1 r2 h2 _ r h3
          obtain rfl | rfl : r = 0 ∨ r = 1 := by omega
          · ktf_call "go"
            exact OutP.mk' (Ent.keep (.cons .hd (by ktf_call "keep"))) (q _ (.set r1) rfl (by show r1 < 1000; omega))
          · ktf_call "go"
            exact OutP.mk' (Ent.keep (.cons .hd (by ktf_call "keep"))) (q _ (.set r2) rfl (by show r2 < 1000; omega))
        case add =>
          ktf_call "go"
          rename_i r1 h1 r2 h2 _ r h3
          obtain rfl | rfl : r = 0 ∨ r = 1 := by omega
          · ktf_call "go"
            exact OutP.mk' (Ent.keep (.cons .hd (by ktf_call "keep"))) (q _ (.add r1) rfl (by show r1 < 1000; omega))
          · ktf_call "go"
            exact OutP.mk' (Ent.keep (.cons .hd (by ktf_call "keep"))) (q _ (.add r2) rfl (by show r2 < 1000; omega))
        case raise =>
          ktf_call "go"
          rename_i r1 h1 r2 h2 _ r h3
          obtain rfl | rfl : r = 0 ∨ r = 1 := by omega
          · ktf_call "go"
            exact OutP.mk' (Ent.keep (.cons .hd (by ktf_call "keep"))) (q _ (.raise r1) rfl (by show r1 < 1000; omega))
          · ktf_call "go"
            exact OutP.mk' (Ent.keep (.cons .hd (by ktf_call "keep"))) (q _ (.raise r2) rfl (by show r2 < 1000; omega))
        case give =>
          ktf_call "go"
          rename_i r1 h1 r2 h2 _ r h3
          obtain rfl | rfl : r = 0 ∨ r = 1 := by omega
          · ktf_call "go"
            exact OutP.mk' (Ent.keep (.cons .hd (by ktf_call "keep"))) (q _ (.give r1) rfl (by show r1 < 1000; omega))
          · ktf_call "go"
            exact OutP.mk' (Ent.keep (.cons .hd (by ktf_call "keep"))) (q _ (.give r2) rfl (by show r2 < 1000; omega))) only [↓Bx.tr]
theorem s_ldeed {K : PySem.W.Frag} {ps R : List HP} {Φ : V → List HP → Prop} {p a : Addr} {ns : List Int} {wd : Wd} {z : Str} (e : z = wd.str) (pk : Pick (dice p a) ps R) (rd : RdL K R a (ns.map V.int)) (hl : ns.length ≤ 1000) (q : ∀ (q : Addr) (d : Deed), d.wd = wd → d.ok → Φ (.ref q) (pt q (.tup d.vals) :: dice p a :: R)) : S_ldeed K [.ref p, .str z] ps Φ := ⟨p, a, ns, R, wd, by rw [e], pk, rd, hl, q⟩
end
end
section
local macro_rules | `(tactic| ktf_call "step") => `(tactic| first
  | ((with_reducible refine' s_cell ?w1 ?w2 ?w3 ?wd); (case w1 => ktf_call "rdl"); (case w2 => assumption); (case w3 => omega))
  | ((with_reducible refine' s_dice ?w1 ?w2 ?w3 fun _ => ?wd); (case w1 => ktf_call "rdl"); (case w2 => assumption); (case w3 => omega))
  | ((with_reducible refine' s_off ?w0 ?w1 ?w2 ?w3 fun r hr => ?wd); (case w0 => ktf_call "pick"); (case w1 => ktf_call "rdl"); (case w2 => assumption); (case w3 => ktf_call "lens")))
section
noncomputable def Allow (ws : List Wd) (h : Nat) (d : Deed) : Prop := d.ok ∧ (d = .take → h = 0) ∧ (d.wd ∈ ws ∨ (d.wd = .give ∧ Wd.take ∈ ws))
noncomputable def S_lplans (K : PySem.W.Frag) : SP := fun vs ps Φ => ∃ (p a q : Addr) (ns : List Int) (ws : List Wd) (m most : Nat) (R : List HP), vs = [.ref p, .int m, .ref q, .int most] ∧ Ent ps (dice p a :: pt q (.lst (ws.map fun x => V.str x.str)) :: R) ∧ RdL K R a (ns.map V.int) ∧ ns.length ≤ 1000 ∧ ws ≠ [] ∧ ws.length ≤ 1000 ∧ m ≤ 6 ∧ most ≤ 1000 ∧
  ∀ (b : Addr) (L : Pool) (Pl : List (List Deed)), Pl.length = m → (∀ h, h < m → (Pl.getD h []).length ≤ most ∧ ∀ d ∈ Pl.getD h [], Allow ws h d) → Φ (.ref b) (plansC L b Pl :: tups L :: dice p a :: pt q (.lst (ws.map fun x => V.str x.str)) :: R)
theorem z_lplans {K : PySem.W.Frag} {ps R : List HP} {Φ : V → List HP → Prop} {p a q : Addr} {ns : List Int} {ws : List Wd} {m most : Nat} (e : Ent ps (dice p a :: pt q (.lst (ws.map fun x => V.str x.str)) :: R)) (rd : RdL K R a (ns.map V.int)) (hl : ns.length ≤ 1000) (hw : ws ≠ []) (hw2 : ws.length ≤ 1000) (hm : m ≤ 6) (ho : most ≤ 1000)
    (k : ∀ (b : Addr) (L : Pool) (Pl : List (List Deed)), Pl.length = m → (∀ h, h < m → (Pl.getD h []).length ≤ most ∧ ∀ d ∈ Pl.getD h [], Allow ws h d) → Φ (.ref b) (plansC L b Pl :: tups L :: dice p a :: pt q (.lst (ws.map fun x => V.str x.str)) :: R)) : S_lplans K [.ref p, .int m, .ref q, .int most] ps Φ := ⟨p, a, q, ns, ws, m, most, R, rfl, e, rd, hl, hw, hw2, hm, ho, k⟩
noncomputable def S_lweave (K : PySem.W.Frag) : SP := fun vs ps Φ => ∃ (p a : Addr) (ns : List Int) (m n : Nat) (R : List HP), vs = [.ref p, .int m, .int n] ∧ Ent ps (dice p a :: R) ∧ RdL K R a (ns.map V.int) ∧ ns.length ≤ 1000 ∧ (1 ≤ m ∧ m ≤ 4) ∧ n ≤ 90000 ∧
  ∀ (b : Addr) (row : List Nat), row.length = n → (∀ h ∈ row, h < m) → Φ (.ref b) (pt b (.lst (natsV row)) :: dice p a :: R)
theorem z_lweave {K : PySem.W.Frag} {ps R : List HP} {Φ : V → List HP → Prop} {p a : Addr} {ns : List Int} {m n : Nat} (e : Ent ps (dice p a :: R)) (rd : RdL K R a (ns.map V.int)) (hl : ns.length ≤ 1000) (hm : 1 ≤ m ∧ m ≤ 4) (ho : n ≤ 90000)
    (k : ∀ (b : Addr) (row : List Nat), row.length = n → (∀ h ∈ row, h < m) → Φ (.ref b) (pt b (.lst (natsV row)) :: dice p a :: R)) : S_lweave K [.ref p, .int m, .int n] ps Φ := ⟨p, a, ns, m, n, R, rfl, e, rd, hl, hm, ho, k⟩
theorem deedsIn_snoc {L : Pool} {das : List Addr} {ds : List Deed} {a : Addr} {d : Deed} (h : DeedsIn L das ds) : DeedsIn (L ++ [(a, d.vals)]) (das ++ [a]) (ds ++ [d]) := by
  refine ⟨by simp [h.1], fun i b u hb hu => ?_⟩
  have hl := h.1
  by_cases hi : i < das.length
  · rw [List.getElem?_append_left hi] at hb
    rw [List.getElem?_append_left (by omega)] at hu
    exact List.mem_append_left _ (h.2 i b u hb hu)
  · rw [List.getElem?_append_right (by omega)] at hb hu
    rw [hl] at hb
    cases hk : i - ds.length with
    | zero => rw [hk] at hb hu; simp at hb hu; subst hb; subst hu; exact mem_snoc
    | succ n => rw [hk] at hb; simp at hb
theorem wd_str {a : Wd} (h : V.str a.str = V.str (Str.ofString "take")) : a = .take := by
  cases a <;> first | rfl | exact absurd h (by decide)
section
variable {P : Program} {w : World} {K : PySem.W.Frag} {mg : Str → Option Value} {base : Heap}
theorem ok__law_plans (E : Env K mg) : FnOk P w K mg base CX0 4 E.f__law_plans E.fd__law_plans ["_law_d", "_law_many", "_law_words", "_law_most"] (spS (S_lplans K)) := by
  refine Bx.out ?_
  simp (disch := with_unfolding_all
      refine okS E.F__law_plans sc__law_plans (fun vs ps Φ h => ?_) (fun cdv A outer s H E0 hr => ?_)
      · obtain ⟨p, a, q, ns, ws, m, most, R, rfl, _⟩ := h; rfl
      · refine ⟨_, ((pss_cons (ps_set (i := 4) sc__law_plans.nd rfl (by first | exact Or.inl rfl | exact Or.inr rfl) (pe_lst pa_nil))
     (pss_cons (ps_for PassesOwn.never rfl (pi_range1 (by rfl) E.bn_range (pa_cons (pv 1) pa_nil)) (pg_name (i := 5) sc__law_plans.nd rfl (by first | exact Or.inl rfl | exact Or.inr rfl)) (pss_cons (ps_set (i := 6) sc__law_plans.nd rfl (by first | exact Or.inl rfl | exact Or.inr rfl) (pe_lst pa_nil))
     (pss_cons (ps_for PassesOwn.never rfl (pi_range1 (by rfl) E.bn_range (pa_cons (pe_call (ok__law_off E) (hr.mono (by decide)) rfl E.g__law_off E.k__law_off E.b__law_off .nil pass0 (pa_cons (pv 0) (pa_cons (pe_op op_add (pv 3) pe_int) pa_nil))) pa_nil)) (pg_name (i := 7) sc__law_plans.nd rfl (by first | exact Or.inl rfl | exact Or.inr rfl)) (pss_cons (ps_set (i := 8) sc__law_plans.nd rfl (by first | exact Or.inl rfl | exact Or.inr rfl) (pe_ix ix_list (pv 2) (pe_call (ok__law_off E) (hr.mono (by decide)) rfl E.g__law_off E.k__law_off E.b__law_off .nil pass0 (pa_cons (pv 0) (pa_cons (pe_callB cr_len (by rfl) E.bn_len (by decide +kernel) (pa_cons (pv 2) pa_nil)) pa_nil))) (fun _ _ => rfl)))
     (Evl.pss_cut (ps_if (PW.pt (pw_and (pt_cmpR op_eq (pv 8) pe_str (nomark _)) (pw_and1 (pt_cmpR op_gt (pv 5) pe_int (nomark _))))) (pss_one (ps_set (i := 8) sc__law_plans.nd rfl (by first | exact Or.inl rfl | exact Or.inr rfl) pe_str)) pss_nil)
     (pss_one (ps_expr (pe_bm PySem.F.plainAttrs_list PySem.F.slot_list_append PySem.F.type_list_append mt_append (pv 6) (pa_cons (pe_call (ok__law_deed E) (hr.mono (by decide)) rfl E.g__law_deed E.k__law_deed E.b__law_deed .nil pass0 (pa_cons (pv 0) (pa_cons (pv 8) pa_nil))) pa_nil)))))))
     (pss_one (ps_expr (pe_bm PySem.F.plainAttrs_list PySem.F.slot_list_append PySem.F.type_list_append mt_append (pv 4) (pa_cons (pv 6) pa_nil)))))))
     (pss_one (ps_ret (pv 4)))))), fun vs ps Φ h => ?_⟩
        obtain ⟨p, a, q, ns, ws, m, most, R, rfl, pk, rd, hl, hw, hw2, hm, ho, k⟩ := h
        try dsimp only [cxOf]
        show Ws _ _ _ _ _ [_, _, _, _, _, _, _, _, _] _
        refine Ws.ent pk ?_
        ktf_call "go"
        rename_i b
        refine ws_for (wi_R1 ?_)
        ktf_call "go"
        refine ⟨_, _, rfl, rfl, by omega, fun i σ ps => ∃ v5 v6 v7 v8 as das L Pl, σ = [some (.ref p), some (.int m), some (.ref q), some (.int most), some (.ref b), v5, v6, v7, v8] ∧ (as.length = i ∧ das.length = i ∧ Pl.length = i ∧ ∀ h, h < i → DeedsIn L (das.getD h []) (Pl.getD h []) ∧ (Pl.getD h []).length ≤ most ∧ ∀ d ∈ Pl.getD h [], Allow ws h d) ∧
          Ent ps (pt b (.lst (as.map V.ref)) :: eachR i (fun k => pt (as.getD k 0) (.lst ((das.getD k []).map V.ref))) :: tups L :: dice p a :: pt q (.lst (ws.map fun x => V.str x.str)) :: R),
          ⟨none, none, none, none, [], [], [], [], rfl, ⟨rfl, rfl, rfl, fun h hh => absurd hh (Nat.not_lt_zero _)⟩, (Ent.cons (eachR_zero.trans (Ent.cons tups_nil)))⟩, fun _ _ _ _ _ => trivial, ?_, ?_⟩
        · rintro i y ex σ ps hi ⟨rfl, rfl⟩ ⟨v5, v6, v7, v8, as, das, L, Pl, rfl, ⟨la, ld, lp, dd⟩, e⟩
          replace hi : i < m := by simpa [srcR] using hi
          refine Wg.ent e ?_
          ktf_call "go"
          rename_i pl
          refine ws_for (wi_R1 ?_)
          ktf_call "go"
          rename_i r hr
          refine ⟨_, _, rfl, rfl, by omega, fun j σ ps => ∃ v7 v8 ds D L2, σ = [some (.ref p), some (.int m), some (.ref q), some (.int most), some (.ref b), some (.int (0 + (i : Nat))), some (.ref pl), v7, v8] ∧ (ds.length = j ∧ D.length = j ∧ (∀ y ∈ L, y ∈ L2) ∧ DeedsIn L2 ds D ∧ ∀ d ∈ D, Allow ws i d) ∧
            Ent ps (pt pl (.lst (ds.map V.ref)) :: pt b (.lst (as.map V.ref)) :: eachR i (fun k => pt (as.getD k 0) (.lst ((das.getD k []).map V.ref))) :: tups L2 :: dice p a :: pt q (.lst (ws.map fun x => V.str x.str)) :: R),
            ⟨_, _, [], [], L, rfl, ⟨rfl, rfl, fun _ h => h, ⟨rfl, fun i a d h => by simp at h⟩, fun d h => by simp at h⟩, ?_⟩, fun _ _ _ _ _ => trivial, ?_, ?_⟩
          · show Ent _ (pt pl (.lst []) :: _)
            ktf_call "ent"
          · rintro j y ex σ ps hj ⟨rfl, rfl⟩ ⟨v7, v8, ds, D, L2, rfl, ⟨l1, l2, hL, hD, hA⟩, e⟩
            replace hj : j < r := by simpa [srcR] using hj
            refine Wg.ent e ?_
            ktf_call "go"
            have hwl : 1 ≤ ws.length := List.length_pos_iff.mpr hw
            rw [List.length_map]
            refine s_off (by ktf_call "pick") (by ktf_call "rdl") hl (by omega) fun r2 hr2 => ?_
            refine w2_ixM (by ktf_call "rdl") ⟨by omega, hr2⟩ fun wd hwd => ?_
            rw [Int.toNat_natCast] at hwd
            have hws : wd ∈ ws := List.mem_of_getElem? hwd
            ktf_call "go"
            refine ws_word (fun σ' ps' => ∃ wd' : Wd, (∀ d : Deed, d.wd = wd' → d.ok → Allow ws i d) ∧ σ' = [some (.ref p), some (.int m), some (.ref q), some (.int most), some (.ref b), some (.int (0 + (i : Nat))), some (.ref pl), some (.int (0 + (j : Nat))), some (.str wd'.str)] ∧
              Ent ps' (pt pl (.lst (ds.map V.ref)) :: pt b (.lst (as.map V.ref)) :: eachR i (fun k => pt (as.getD k 0) (.lst ((das.getD k []).map V.ref))) :: tups L2 :: dice p a :: pt q (.lst (ws.map fun x => V.str x.str)) :: R)) ?_ ?_
            · ktf_call "go"
              refine iteD (fun ht => ?_) (fun ht => ?_)
              · have hwt : wd = .take := wd_str ht
                subst hwt
                ktf_call "go"
                refine iteD (fun hi0 => ?_) (fun hi0 => ?_)
                · ktf_call "go"
                  refine ⟨.give, fun d hd ok => ⟨ok, fun z => ?_, .inr ⟨hd, hws⟩⟩, rfl, by ktf_call "ent"⟩
                  subst z; exact absurd hd (by decide)
                · ktf_call "go"
                  exact ⟨.take, fun d hd ok => ⟨ok, fun _ => by omega, .inl (hd ▸ hws)⟩, rfl, by ktf_call "ent"⟩
              · ktf_call "go"
                refine ⟨wd, fun d hd ok => ⟨ok, fun z => ?_, .inl (hd ▸ hws)⟩, rfl, by ktf_call "ent"⟩
                subst z; exact absurd (by rw [← hd]; rfl) ht
            · rintro σ ps ⟨wd', hal, rfl, e⟩
              refine Ws.ent e ?_
              ktf_call "go"
              refine s_ldeed rfl (by ktf_call "pick") (by ktf_call "rdl") hl fun t d hd hok => ?_
              have hal2 := hal d hd hok
              have hsz : (ds.map V.ref).length < sizeLine := by rw [List.length_map]; exact Nat.lt_of_le_of_lt (m := 1001) (by omega) (by decide)
              ktf_call "go"
              refine ⟨_, _, ds ++ [t], D ++ [d], L2 ++ [(t, d.vals)], rfl, ⟨by simp [l1], by simp [l2], fun y hy => List.mem_append_left _ (hL y hy), deedsIn_snoc hD, fun d' hd' => ?_⟩, ?_⟩
              · rcases List.mem_append.mp hd' with h | h
                · exact hA d' h
                · rw [List.mem_singleton.mp h]; exact hal2
              · have em : (ds ++ [t]).map V.ref = ds.map V.ref ++ [.ref t] := by simp
                rw [em]
                refine' Ent.trans ?y3 (Ent.trans (tups_snoc (L := L2) (a := t) (xs := d.vals)) ?y4)
                case y3 => ktf_call "ent"
                ktf_call "ent"
          · rintro σ ps ⟨v7, v8, ds, D, L2, rfl, ⟨l1, l2, hL, hD, hA⟩, e⟩
            have e3 : (srcR 0 (r : Int).toNat).n = r := by simp [srcR]
            have hsz : (as.map V.ref).length < sizeLine := by rw [List.length_map]; exact Nat.lt_of_le_of_lt (m := 6) (by omega) (by decide)
            refine Ws.ent e ?_
            ktf_call "go"
            refine ⟨_, _, _, _, as ++ [pl], das ++ [ds], L2, Pl ++ [D], rfl, ⟨by simp [la], by simp [ld], by simp [lp], fun h hh => ?_⟩, ?_⟩
            · by_cases hh2 : h < i
              · rw [getD_snoc_lt (by omega), getD_snoc_lt (by omega)]
                exact ⟨(dd h hh2).1.mono hL, (dd h hh2).2⟩
              · have : h = i := by omega
                subst this
                rw [getD_snoc_eq (by omega), getD_snoc_eq (by omega)]
                rw [e3] at l2
                exact ⟨hD, by omega, hA⟩
            · have em : (as ++ [pl]).map V.ref = as.map V.ref ++ [.ref pl] := by simp
              rw [em]
              have c := fun R' => eachR_snoc (R := R') (n := i) (f := fun k => pt (as.getD k 0) (.lst ((das.getD k []).map V.ref))) (g := fun k => pt ((as ++ [pl]).getD k 0) (.lst (((das ++ [ds]).getD k []).map V.ref))) fun k hk => by
                rw [getD_snoc_lt (by omega), getD_snoc_lt (by omega)]
              rw [getD_snoc_eq (by omega), getD_snoc_eq (by omega)] at c
              refine' Ent.trans ?y5 (Ent.trans (c _) ?y6)
              case y5 => ktf_call "ent"
              ktf_call "ent"
        · rintro σ ps ⟨v5, v6, v7, v8, as, das, L, Pl, rfl, ⟨la, ld, lp, dd⟩, e⟩
          have e3 : (srcR 0 (m : Int).toNat).n = m := by simp [srcR]
          rw [e3] at la ld lp dd e
          refine Ws.ent e ?_
          ktf_call "go"
          refine OutP.mk' ?_ (k b L Pl lp fun h hh => (dd h hh).2)
          subst lp
          exact ent_plans ⟨as, das, la, ld, fun h hh => (dd h hh).1⟩) only [↓Bx.tr]
end
section
variable {P : Program} {w : World} {K : PySem.W.Frag} {mg : Str → Option Value} {base : Heap}
theorem ok__law_weave (E : Env K mg) : FnOk P w K mg base CX0 3 E.f__law_weave E.fd__law_weave ["_law_d", "_law_many", "_law_count"] (spS (S_lweave K)) := by
  refine Bx.out ?_
  simp (disch := with_unfolding_all
      refine okS E.F__law_weave sc__law_weave (fun vs ps Φ h => ?_) (fun cdv A outer s H E0 hr => ?_)
      · obtain ⟨p, a, ns, m, n, R, rfl, _⟩ := h; rfl
      · refine ⟨_, ((pss_cons (ps_set (i := 3) sc__law_weave.nd rfl (by first | exact Or.inl rfl | exact Or.inr rfl) (pe_lst pa_nil))
     (pss_cons (ps_set (i := 4) sc__law_weave.nd rfl (by first | exact Or.inl rfl | exact Or.inr rfl) (pe_call (ok__law_off E) (hr.mono (by decide)) rfl E.g__law_off E.k__law_off E.b__law_off .nil pass0 (pa_cons (pv 0) (pa_cons pe_int pa_nil))))
     (pss_cons (ps_set (i := 5) sc__law_weave.nd rfl (by first | exact Or.inl rfl | exact Or.inr rfl) pe_int)
     (pss_cons (ps_for PassesOwn.never rfl (pi_range1 (by rfl) E.bn_range (pa_cons (pv 2) pa_nil)) (pg_name (i := 6) sc__law_weave.nd rfl (by first | exact Or.inl rfl | exact Or.inr rfl)) (Evl.pss_cut (ps_if (PW.pt (pw_or (pt_cmpR op_eq (pv 4) pe_int (nomark _)) (pw_or1 (pt_cmpR op_eq (pe_call (ok__law_off E) (hr.mono (by decide)) rfl E.g__law_off E.k__law_off E.b__law_off .nil pass0 (pa_cons (pv 0) (pa_cons pe_int pa_nil))) pe_int (nomark _))))) (pss_one (ps_set (i := 5) sc__law_weave.nd rfl (by first | exact Or.inl rfl | exact Or.inr rfl) (pe_call (ok__law_off E) (hr.mono (by decide)) rfl E.g__law_off E.k__law_off E.b__law_off .nil pass0 (pa_cons (pv 0) (pa_cons (pv 1) pa_nil))))) pss_nil)
     (Evl.pss_cut (ps_if (PW.pt (pw_and (pt_cmpR op_gt (pv 4) pe_int (nomark _)) (pw_and (pt_cmpR op_eq (pv 5) (pe_ix ix_list (pe_lst (pa_cons pe_int (pa_cons (pe_op op_sub (pv 1) pe_int) pa_nil))) (pe_op op_sub (pv 4) pe_int) (fun _ _ => rfl)) (nomark _)) (pw_and1 (pt_cmpR op_gt (pe_call (ok__law_off E) (hr.mono (by decide)) rfl E.g__law_off E.k__law_off E.b__law_off .nil pass0 (pa_cons (pv 0) (pa_cons pe_int pa_nil))) pe_int (nomark _)))))) (pss_one (ps_set (i := 5) sc__law_weave.nd rfl (by first | exact Or.inl rfl | exact Or.inr rfl) (pe_call (ok__law_off E) (hr.mono (by decide)) rfl E.g__law_off E.k__law_off E.b__law_off .nil pass0 (pa_cons (pv 0) (pa_cons (pv 1) pa_nil))))) pss_nil)
     (pss_one (ps_expr (pe_bm PySem.F.plainAttrs_list PySem.F.slot_list_append PySem.F.type_list_append mt_append (pv 3) (pa_cons (pv 5) pa_nil)))))))
     (pss_one (ps_ret (pv 3)))))))), fun vs ps Φ h => ?_⟩
        obtain ⟨p, a, ns, m, n, R, rfl, pk, rd, hl, hm, ho, k⟩ := h
        try dsimp only [cxOf]
        show Ws _ _ _ _ _ [_, _, _, _, _, _, _] _
        refine Ws.ent pk ?_
        ktf_call "go"
        rename_i b r hr
        refine ws_for (wi_R1 ?_)
        ktf_call "go"
        refine ⟨_, _, rfl, rfl, by omega, fun i σ ps => ∃ (v6 : Option V) (h : Nat) (row : List Nat), σ = [some (.ref p), some (.int m), some (.int n), some (.ref b), some (.int r), some (.int h), v6] ∧ (row.length = i ∧ h < m ∧ ∀ x ∈ row, x < m) ∧
          Ent ps (dice p a :: pt b (.lst (natsV row)) :: R),
          ⟨none, 0, [], rfl, ⟨rfl, by omega, fun x h => by simp at h⟩, by show Ent _ (dice p a :: pt b (.lst []) :: R); ktf_call "ent"⟩, fun _ _ _ _ _ => trivial, ?_, ?_⟩
        · rintro i y ex σ ps hi ⟨rfl, rfl⟩ ⟨v6, h, row, rfl, ⟨hrl, hh, hro⟩, e⟩
          replace hi : i < n := by simpa [srcR] using hi
          have hsz : (natsV row).length < sizeLine := by rw [natsV, List.length_map]; exact Nat.lt_of_le_of_lt (m := 90000) (by omega) (by decide)
          refine Wg.ent e ?_
          ktf_call "go"
          refine ws_word (fun σ' ps' => ∃ h' : Nat, σ' = [some (.ref p), some (.int m), some (.int n), some (.ref b), some (.int r), some (.int h'), some (.int (0 + (i : Nat)))] ∧ h' < m ∧ Ent ps' (dice p a :: pt b (.lst (natsV row)) :: R)) ?_ ?_
          · ktf_call "go"
            refine iteD (fun _ => ?_) (fun _ => ?_)
            · ktf_call "go"
              rename_i h2 hh2
              exact ⟨h2, rfl, by omega, by ktf_call "ent"⟩
            · ktf_call "go"
              rename_i z hz
              refine iteD (fun _ => ?_) (fun _ => ?_)
              · ktf_call "go"
                rename_i h2 hh2
                exact ⟨h2, rfl, by omega, by ktf_call "ent"⟩
              · ktf_call "go"
                exact ⟨h, rfl, hh, by ktf_call "ent"⟩
          · clear e hh
            rintro σ ps ⟨h, rfl, hh, e⟩
            refine Ws.ent e ?_
            refine ws_word (fun σ' ps' => ∃ h' : Nat, σ' = [some (.ref p), some (.int m), some (.int n), some (.ref b), some (.int r), some (.int h'), some (.int (0 + (i : Nat)))] ∧ h' < m ∧ Ent ps' (dice p a :: pt b (.lst (natsV row)) :: R)) ?_ ?_
            · ktf_call "go"
              refine iteD (fun hw => ?_) (fun _ => ?_)
              · ktf_call "go"
                refine w2_ixM (f := V.int) (xs := [0, (m : Int) - 1]) (by show RdL _ _ _ [V.int 0, V.int ((m : Int) - 1)]; ktf_call "rdl") ⟨by omega, by show _ < (2 : Int); omega⟩ fun x _ => ?_
                ktf_call "go"
                refine iteD (fun _ => ?_) (fun _ => ?_)
                · ktf_call "go"
                  rename_i z hz
                  refine iteD (fun _ => ?_) (fun _ => ?_)
                  · ktf_call "go"
                    rename_i h2 hh2
                    exact ⟨h2, rfl, by omega, by ktf_call "ent"⟩
                  · ktf_call "go"
                    exact ⟨h, rfl, hh, by ktf_call "ent"⟩
                · ktf_call "go"
                  exact ⟨h, rfl, hh, by ktf_call "ent"⟩
              · ktf_call "go"
                exact ⟨h, rfl, hh, by ktf_call "ent"⟩
            · clear e hh
              rintro σ ps ⟨h, rfl, hh, e⟩
              refine Ws.ent e ?_
              ktf_call "go"
              refine ⟨_, h, row ++ [h], rfl, ⟨by simp [hrl], hh, fun x hx => ?_⟩, ?_⟩
              · rcases List.mem_append.mp hx with z | z
                · exact hro x z
                · rw [List.mem_singleton.mp z]; exact hh
              · have em : natsV (row ++ [h]) = natsV row ++ [.int h] := by simp [natsV]
                rw [em]
                ktf_call "ent"
        · rintro σ ps ⟨v6, h, row, rfl, ⟨hrl, hh, hro⟩, e⟩
          have e3 : (srcR 0 (n : Int).toNat).n = n := by simp [srcR]
          rw [e3] at hrl
          refine Ws.ent e ?_
          ktf_call "go"
          exact OutP.mk' (by ktf_call "ent") (k b row hrl hro)) only [↓Bx.tr]
end
end
end
section
local macro_rules | `(tactic| ktf_call "step") => `(tactic| first
  | ((with_reducible refine' methBox ?w1 ?w2 ?w3 ?wd); (case w1 => ktf_call "mem"); (case w2 => exact rfl); (case w3 => decide +kernel))
  | ((with_reducible refine' fldG_box ?w1 fun _ _ _ _ => ?wd); (case w1 => ktf_call "pick"))
  | ((with_reducible refine' fldS_box ?w1 fun _ _ _ _ => ?wd); (case w1 => ktf_call "pick"))
  | ((with_reducible refine' z_bneed ?w1 ?w2 ?wd); (case w1 => ktf_call "pick"); (case w2 => first | assumption | ktf_call "lens")))
section
local macro_rules | `(tactic| ktf_call "step") => `(tactic| first
  | ((with_reducible refine' meth_scanC ?w1 ?w2 ?w3 ?wd); (case w1 => ktf_call "mem"); (case w2 => exact rfl); (case w3 => decide +kernel))
  | ((with_reducible refine' fldG_scanC ?w1 fun _ _ _ _ => ?wd); (case w1 => ktf_call "pick"))
  | ((with_reducible refine' fldG_memC ?w1 fun _ _ _ _ => ?wd); (case w1 => ktf_call "pick"))
  | ((with_reducible refine' fldS_scanC ?w1 fun _ _ _ _ => ?wd); (case w1 => ktf_call "pick"))
  | ((with_reducible refine' fldS_memC ?w1 fun _ _ _ _ => ?wd); (case w1 => ktf_call "pick"))
  | ((with_reducible refine' z_btake ?w1 ?w2 ?w3 ?wd); (case w1 => ktf_call "pick"); (case w2 => first | assumption | ktf_call "lens"); (case w3 => first | assumption | ktf_call "lens"))
  | ((with_reducible refine' z_bput ?w1 ?w2 ?w3 ?wd); (case w1 => ktf_call "pick"); (case w2 => first | assumption | ktf_call "lens"); (case w3 => first | assumption | ktf_call "lens"))
  | ((with_reducible refine' dinMv ?w1 ?wd); (case w1 => ktf_call "mem"))
  | ((with_reducible refine' rdl_nats ?w1); (case w1 => ktf_call "rdl"))
  | ((with_reducible refine' w2_eqNats ?w1 ?w2 ?wd); (case w1 => ktf_call "rdl"); (case w2 => ktf_call "rdl")))
section
local macro_rules | `(tactic| ktf_call "step") => `(tactic| first
  | ((with_reducible refine' z_cellof ?w1 ?w2 ?wd); (case w1 => assumption); (case w2 => assumption))
  | (with_reducible refine z_scaninit ?_))
section
local macro_rules | `(tactic| ktf_call "step") => `(tactic| first
  | ((with_reducible refine' s_cell ?w1 ?w2 ?w3 ?wd); (case w1 => ktf_call "rdl"); (case w2 => assumption); (case w3 => omega))
  | ((with_reducible refine' s_dice ?w1 ?w2 ?w3 fun _ => ?wd); (case w1 => ktf_call "rdl"); (case w2 => assumption); (case w3 => omega))
  | ((with_reducible refine' s_off ?w0 ?w1 ?w2 ?w3 fun r hr => ?wd); (case w0 => ktf_call "pick"); (case w1 => ktf_call "rdl"); (case w2 => assumption); (case w3 => ktf_call "lens")))
section
local macro_rules | `(tactic| ktf_call "step") => `(tactic| first
  | ((with_reducible refine' w2_ixD ?w1 ?wd); (case w1 => assumption)))
section
local macro_rules | `(tactic| ktf_call "rdf") => `(tactic| first | with_reducible assumption | ((with_reducible refine' rdf_obj ?w1 ?w2 ?w3); (case w1 => ktf_call "mem"); (case w2 => exact rfl); (case w3 => ktf_call "mem")))
local macro_rules | `(tactic| ktf_call "step") => `(tactic| first
  | ((with_reducible refine' z_needhand ?w1 ?w2 ?wd); (case w1 => ktf_call "rdf"); (case w2 => assumption)))
section
section
variable {K : PySem.W.Frag} {mg : Str → Option Value}
theorem runOk_inv {P : List (List Deed)} : ∀ {row : List Nat} {S : Mir.HallS}, Mir.Inv P S → (∀ h ∈ row, h < S.many) → S.hands.length + row.length ≤ 90000 → RunOk S row
  | [], _, _, _, _ => trivial
  | h :: r, S, I, hr, hf => by
    rw [List.length_cons] at hf
    have hl := Mir.step_len (S := S) (h := h)
    have hh := hr h (List.mem_cons_self ..)
    refine ⟨⟨I.wf (by omega), hh, Mir.step_ok I hh (by omega)⟩, runOk_inv (Mir.step_inv I hh (by omega)) (fun k hk => ?_) (by omega)⟩
    rw [Mir.step_many.1]; exact hr k (List.mem_cons_of_mem _ hk)
theorem z_hweave {E : Env K mg} {ps R : List HP} {Φ : V → List HP → Prop} {x a : Addr} {L : Pool} {S : Mir.HallS} {row : List Nat} {P : List (List Deed)} (e : Ent ps (hallC (hiE E) x L S :: tups L :: R)) (rd : RdL K R a (natsV row)) (I : Mir.Inv P S) (hrow : ∀ h ∈ row, h < S.many) (hl : S.hands.length + row.length ≤ 90000)
    (k : ∀ L', (∀ y ∈ L, y ∈ L') → Φ (.int (S.weave row).2) (hallC (hiE E) x L' (S.weave row).1 :: tups L' :: R)) : S_weave E [.ref x, .ref a] ps Φ := ⟨x, a, L, S, row, R, rfl, e, rd, hrow, by omega, runOk_inv I hrow hl, k⟩
theorem inv_ended {P : List (List Deed)} {S : Mir.HallS} (I : Mir.Inv P S) (hf : S.hands.length ≤ 90000) : S.ended.length ≤ 90000 := by
  have := Mir.sorted_len I.srt fun d hd => (I.fin d hd).2.1
  omega
end
section
variable {K : PySem.W.Frag} {ps : List HP} {L : Pool}
theorem deed_shaped (d : Deed) : SeqAt.shaped d.data = true := by
  have := d.depth
  unfold SeqAt.shaped
  exact Bool.and_eq_true_iff.mpr ⟨Deed.canLay d, decide_eq_true (by omega)⟩
theorem rdd_deed {a : Addr} {d : Deed} (h : RdT K ps a d.vals) : RdD K ps (.ref a) d.data := by
  have e := deed_shaped d
  cases d <;> exact rdd_tup h (by first | exact .cons (fun _ _ => .str _) .nil | exact .cons (fun _ _ => .str _) (.cons (fun _ _ => .int _) .nil)) e
theorem deed_eqv (d e : Deed) : PyData.eqv d.data e.data = decide (d = e) := by
  cases d <;> cases e <;> first | rfl | (simp [Deed.data, PyData.eqv, PyData.eqvAll]; done) | (simp [Deed.data, PyData.eqv, PyData.eqvAll]; exact Bool.eq_iff_iff.mpr (by simp; exact Int.ofNat_inj))
theorem w2_eqDeed {Φ : V → List HP → Prop} {a b : Addr} {d e : Deed} (h : RdT K ps a d.vals) (g : RdT K ps b e.vals) (k : Φ (.bl (decide (d = e))) ps) : W2 (rEqD K) (.ref a) (.ref b) ps Φ := w2_eqD (rdd_deed h) (rdd_deed g) (by rw [deed_eqv]; exact k)
theorem RecsIn.at' {as : List Addr} {rs : List Rec} {i : Nat} (h : RecsIn L as rs) (hi : i < rs.length) : ∃ r, rs[i]? = some r ∧ RecIn L (as.getD i 0) r := by
  have := h.1
  exact ⟨rs[i], List.getElem?_eq_getElem hi, h.2 i _ _ (getD_lt (by omega)) (List.getElem?_eq_getElem hi)⟩
theorem recsIn_take {as' : List Addr} {rs : List Rec} {i : Nat} {p : Rec → Bool} {r : Rec} {a : Addr} (h : RecsIn L as' ((rs.take i).filter p)) (hr : rs[i]? = some r) (hi : RecIn L a r) (hp : p r = true) : RecsIn L (as' ++ [a]) ((rs.take (i + 1)).filter p) := by
  rw [List.take_succ, hr]
  simp only [Option.toList, List.filter_append, List.filter_cons, hp, if_true, List.filter_nil]
  exact h.snoc hi
theorem take_skip {rs : List Rec} {i : Nat} {p : Rec → Bool} {r : Rec} (hr : rs[i]? = some r) (hp : p r = false) : (rs.take (i + 1)).filter p = (rs.take i).filter p := by
  rw [List.take_succ, hr]
  simp [hp]
theorem len_core {rs : List Rec} (p : Core → Bool) : ((rs.map Rec.core).filter p).length = (rs.filter fun r => p (Rec.core r)).length := by
  rw [List.filter_map, List.length_map]; rfl
theorem len_take_snoc {rs : List Rec} {i : Nat} {p : Rec → Bool} {r : Rec} {acc : List V} {v : V} (h : acc.length = ((rs.take i).filter p).length) (hr : rs[i]? = some r) (hp : p r = true) : (acc ++ [v]).length = ((rs.take (i + 1)).filter p).length := by
  rw [List.take_succ, hr]
  simp [hp, h]
theorem ones_len {rs : List Rec} {q : Rec → Bool} : ((rs.filter fun r => decide (r.deed = .one)).filter q).length = (rs.filter fun r => decide (r.deed = .one) && q r).length := by
  rw [List.filter_filter]
  congr 1
  exact List.filter_congr fun x _ => Bool.and_comm _ _
end
noncomputable def S_law (K : PySem.W.Frag) : SP := fun vs ps Φ => ∃ (a : Addr) (ns : List Int), vs = [.ref a] ∧ ps = [scr K a ns] ∧ ns.length ≤ 63 ∧ ∀ ps', Φ (.bl true) ps'
section
variable {P : Program} {w : World} {K : PySem.W.Frag} {mg : Str → Option Value} {base : Heap}
theorem ok_law (E : Env K mg) : FnOk P E.ww K mg base CX0 8 E.f_law E.fd_law ["_law_script"] (spS (S_law K)) := by
  refine Bx.out ?_
  simp (disch := with_unfolding_all
      refine okS E.F_law sc_law (fun vs ps Φ h => ?_) (fun cdv A outer s H E0 hr => ?_)
      · obtain ⟨a, ns, rfl, _⟩ := h; rfl
      · refine ⟨_, ((pss_cons (ps_set (i := 1) sc_law.nd rfl (by first | exact Or.inl rfl | exact Or.inr rfl) (pe_op op_add pe_int (pe_op op_mod (pe_callB cr_abs (by rfl) E.bn_abs (by decide +kernel) (pa_cons (pe_call (ok__law_cell E) (hr.mono (by decide)) rfl E.g__law_cell E.k__law_cell E.b__law_cell .nil pass0 (pa_cons (pv 0) (pa_cons pe_int pa_nil))) pa_nil)) pe_int)))
     (pss_cons (ps_set (i := 2) sc_law.nd rfl (by first | exact Or.inl rfl | exact Or.inr rfl) (pe_call (ok__law_plans E) (hr.mono (by decide)) rfl E.g__law_plans E.k__law_plans E.b__law_plans .nil pass0 (pa_cons (pe_call (ok__law_dice E) (hr.mono (by decide)) rfl E.g__law_dice E.k__law_dice E.b__law_dice .nil pass0 (pa_cons (pv 0) (pa_cons pe_int pa_nil))) (pa_cons (pv 1) (pa_cons (pe_lst (pa_cons pe_str (pa_cons pe_str (pa_cons pe_str pa_nil)))) (pa_cons pe_int pa_nil))))))
     (pss_cons (ps_set (i := 3) sc_law.nd rfl (by first | exact Or.inl rfl | exact Or.inr rfl) (pe_make E.mk_Hall (ok_Hall_init E) (hr.mono (by decide)) rfl E.g_Hall E.b_Hall_init .nil pass0 (pa_cons (pv 2) pa_nil)))
     (pss_cons (ps_expr (pe_meth (pv 3) E.i_Hall.cls E.m_Hall_weave (ok_Hall_weave E) (hr.mono (by decide)) E.b_Hall_weave .nil pass0 (pa_cons (pe_call (ok__law_weave E) (hr.mono (by decide)) rfl E.g__law_weave E.k__law_weave E.b__law_weave .nil pass0 (pa_cons (pe_call (ok__law_dice E) (hr.mono (by decide)) rfl E.g__law_dice E.k__law_dice E.b__law_dice .nil pass0 (pa_cons (pv 0) (pa_cons pe_int pa_nil))) (pa_cons (pv 1) (pa_cons (pe_op op_mod (pe_callB cr_abs (by rfl) E.bn_abs (by decide +kernel) (pa_cons (pe_call (ok__law_cell E) (hr.mono (by decide)) rfl E.g__law_cell E.k__law_cell E.b__law_cell .nil pass0 (pa_cons (pv 0) (pa_cons pe_int pa_nil))) pa_nil)) pe_int) pa_nil)))) pa_nil)))
     (pss_cons (ps_set (i := 4) sc_law.nd rfl (by first | exact Or.inl rfl | exact Or.inr rfl) (pe_meth0 (pv 3) E.i_Hall.cls E.m_Hall_records (ok_Hall_records E) (hr.mono (by decide)) E.b_Hall_records .nil pass0))
     (pss_cons (ps_setLc (i := 5) (own := [("_law_record", 12)]) (g := gName 12) (tt := (tTest (tOp (rEqD K) (tOp (rIxT K) _ _) _)))  (by rfl) sc_law.nd rfl rfl (sw_true rfl rfl rfl (by decide +kernel)) (pi_list (pv 4)) (blkOk_by (own := [("_law_record", 12)]) (N := n_law) (sc := defScope s_law) (by decide +kernel)) (fun _ _ _ _ _ => (pg_name (i := 12) sc_law.nd rfl (by first | exact Or.inl rfl | exact Or.inr rfl))) (fun _ _ _ _ _ => (pts_one (pt_cmpR (op_eqD hr.units) (pe_ix ix_tup (pv 12) pe_int (fun _ _ => rfl)) (pe_tup (pa_cons pe_str pa_nil)) (nomark _)))) (fun _ _ _ _ _ => (pv 12)))
     (pss_cons (ps_setLc (i := 6) (own := [("_law_record", 12)]) (g := gName 12) (tt := (tTest (tOp (rEqD K) (tOp (rIxT K) _ _) _)))  (by rfl) sc_law.nd rfl rfl (sw_true rfl rfl rfl (by decide +kernel)) (pi_list (pv 4)) (blkOk_by (own := [("_law_record", 12)]) (N := n_law) (sc := defScope s_law) (by decide +kernel)) (fun _ _ _ _ _ => (pg_name (i := 12) sc_law.nd rfl (by first | exact Or.inl rfl | exact Or.inr rfl))) (fun _ _ _ _ _ => (pts_one (pt_cmpR (op_eqD hr.units) (pe_ix ix_tup (pv 12) pe_int (fun _ _ => rfl)) (pe_tup (pa_cons pe_str pa_nil)) (nomark _)))) (fun _ _ _ _ _ => (pv 12)))
     (pss_cons (ps_for PassesOwn.never rfl (pi_list (pv 6)) (pg_tup rfl (pgs_cons (pg_name (i := 7) sc_law.nd rfl (by first | exact Or.inl rfl | exact Or.inr rfl)) (pgs_cons (pg_name (i := 8) sc_law.nd rfl (by first | exact Or.inl rfl | exact Or.inr rfl)) (pgs_cons (pg_name (i := 9) sc_law.nd rfl (by first | exact Or.inl rfl | exact Or.inr rfl)) (pgs_cons (pg_name (i := 10) sc_law.nd rfl (by first | exact Or.inl rfl | exact Or.inr rfl)) (pgs_cons (pg_name (i := 11) sc_law.nd rfl (by first | exact Or.inl rfl | exact Or.inr rfl)) pgs_nil)))))) (pss_cons (ps_if (PW.pt (pw_or (pt_val (pe_callB cr_isi (by rfl) E.bn_isinstance (by decide +kernel) (pa_cons (pv 11) (pa_cons (pe_bltn (v := .ty "bool") (by rfl) E.bn_bool (by decide +kernel) rfl) pa_nil)))) (pw_or1 (pt_not (pt_val (pe_callB cr_isi (by rfl) E.bn_isinstance (by decide +kernel) (pa_cons (pv 11) (pa_cons (pe_bltn (v := .ty "int") (by rfl) E.bn_int (by decide +kernel) rfl) pa_nil)))))))) (pss_one (ps_ret pe_bl)) pss_nil)
     (pss_cons (ps_if (PW.pt (pw_or (pt_cmpR op_lt (pv 11) (pe_callB cr_len (by rfl) E.bn_len (by decide +kernel) (pa_cons (pe_lc (own := [("_law_one", 13)]) (g := gName 13) (tt := (tTest (tOp _ (tOp (rIxT K) _ _) _)))  (by rfl) sc_law.nd (pi_list (pv 5)) (blkOk_by (own := [("_law_one", 13)]) (N := n_law) (sc := defScope s_law) (by decide +kernel)) (fun _ _ _ _ _ => (pg_name (i := 13) sc_law.nd rfl (by first | exact Or.inl rfl | exact Or.inr rfl))) (fun _ _ _ _ _ => (pts_one (pt_cmpR op_lt (pe_ix ix_tup (pv 13) pe_int (fun _ _ => rfl)) (pv 9) (nomark _)))) (fun _ _ _ _ _ => (pv 13))) pa_nil)) (nomark _)) (pw_or1 (pt_cmpR op_gt (pv 11) (pe_callB cr_len (by rfl) E.bn_len (by decide +kernel) (pa_cons (pe_lc (own := [("_law_one", 13)]) (g := gName 13) (tt := (tTest (tOp _ (tOp (rIxT K) _ _) _)))  (by rfl) sc_law.nd (pi_list (pv 5)) (blkOk_by (own := [("_law_one", 13)]) (N := n_law) (sc := defScope s_law) (by decide +kernel)) (fun _ _ _ _ _ => (pg_name (i := 13) sc_law.nd rfl (by first | exact Or.inl rfl | exact Or.inr rfl))) (fun _ _ _ _ _ => (pts_one (pt_cmpR op_lt (pe_ix ix_tup (pv 13) pe_int (fun _ _ => rfl)) (pv 10) (nomark _)))) (fun _ _ _ _ _ => (pv 13))) pa_nil)) (nomark _))))) (pss_one (ps_ret pe_bl)) pss_nil)
     (pss_one (ps_if (pt_cmpR (op_neD hr.units) (pe_lc (own := [("_law_other", 14)]) (g := gName 14) (tt := (tAnd (tTest (tOp _ (tOp (rIxT K) _ _) _)) (tTest (tOp _ (tOp (rIxT K) _ _) _))))  (by rfl) sc_law.nd (pi_list (pv 6)) (blkOk_by (own := [("_law_other", 14)]) (N := n_law) (sc := defScope s_law) (by decide +kernel)) (fun _ _ _ _ _ => (pg_name (i := 14) sc_law.nd rfl (by first | exact Or.inl rfl | exact Or.inr rfl))) (fun _ _ _ _ _ => (pts_one (PW.pt (pw_and (pt_cmpR op_lt (pe_ix ix_tup (pv 14) pe_int (fun _ _ => rfl)) (pv 9) (nomark _)) (pw_and1 (pt_cmpR op_gt (pe_ix ix_tup (pv 14) pe_int (fun _ _ => rfl)) (pv 11) (nomark _))))))) (fun _ _ _ _ _ => pe_int)) (pe_lst pa_nil) (nomark _)) (pss_one (ps_ret pe_bl)) pss_nil)))))
     (pss_one (ps_ret (pe_cmpR (op_eqD hr.units) (pe_lc (own := [("_law_one", 13)]) (g := gName 13) (tt := (tB (tNotN (tOp (rIxT K) _ _))))  (by rfl) sc_law.nd (pi_list (pv 5)) (blkOk_by (own := [("_law_one", 13)]) (N := n_law) (sc := defScope s_law) (by decide +kernel)) (fun _ _ _ _ _ => (pg_name (i := 13) sc_law.nd rfl (by first | exact Or.inl rfl | exact Or.inr rfl))) (fun _ _ _ _ _ => (pts_one (pt_cmp (pc_notN (pe_ix ix_tup (pv 13) pe_int (fun _ _ => rfl)))))) (fun _ _ _ _ _ => pe_int)) (pe_lst pa_nil) (nomark _))))))))))))), fun vs ps Φ h => ?_⟩
        obtain ⟨a, ns, rfl, rfl, hl, q⟩ := h
        try dsimp only [cxOf]
        show Ws _ _ _ _ _ [_, _, _, _, _, _, _, _, _, _, _, _, _, _, _] _
        have hl2 : ns.length ≤ 1000 := by omega
        ktf_call "go"
        obtain ⟨m, em⟩ : ∃ m : Nat, 1 + ((ns.getD (Int.toNat 0) 0).natAbs : Int) % 4 = (m : Int) := ⟨1 + (ns.getD (Int.toNat 0) 0).natAbs % 4, by omega⟩
        have hm : 1 ≤ m ∧ m ≤ 4 := by omega
        rw [em]
        rename_i wl p1
        refine z_lplans (m := m) (most := 12) (ws := [.one, .one, .count]) (ns := ns) (by show Ent _ (_ :: pt _ (.lst [V.str (Str.ofString "one"), V.str (Str.ofString "one"), V.str (Str.ofString "count")]) :: _); ktf_call "ent") (by ktf_call "rdl") hl2 (fun z => nomatch z) (by decide) (by omega) (by omega) fun b L Pl hpl hpo => ?_
        ktf_call "go"
        intro hx
        have hpok : PlanOk' Pl := ⟨by omega, fun h hh => ⟨by have := (hpo h (by omega)).1; omega, fun d hd => ⟨((hpo h (by omega)).2 d hd).1, ((hpo h (by omega)).2 d hd).2.1⟩⟩⟩
        have I0 : Mir.Inv Pl (.new Pl) := Mir.new_inv hpok
        refine z_hallinit (x := hx) (a := b) (L := L) (Pl := Pl) (by ktf_call "ent") hpok ⟨rfl, ?_⟩
        ktf_call "go"
        refine meth_hall (I := hiE E) (x := hx) (L := L) (S := Mir.HallS.new Pl) (by ktf_call "mem") rfl (by decide) ?_
        ktf_call "go"
        rename_i p2
        obtain ⟨n, en, hn⟩ : ∃ n : Nat, ((ns.getD (Int.toNat 3) 0).natAbs : Int) % 201 = (n : Int) ∧ n ≤ 200 := ⟨(ns.getD (Int.toNat 3) 0).natAbs % 201, by omega, by omega⟩
        rw [en]
        refine z_lweave (m := m) (n := n) (p := p2) (a := a) (ns := ns) (by ktf_call "ent") (by ktf_call "rdl") hl2 hm (by omega) fun rb row hrl hrow => ?_
        ktf_call "go"
        have hml : (Mir.HallS.new Pl).many = m := hpl
        refine z_hweave (x := hx) (a := rb) (L := L) (S := Mir.HallS.new Pl) (row := row) (by ktf_call "ent") (by ktf_call "rdl") I0 (fun h hh => by rw [hml]; exact hrow h hh) (by show 0 + _ ≤ _; omega) fun L1 hL1 => ?_
        obtain ⟨I1, hm1, hl1⟩ := Mir.weave_inv (row := row) I0 (fun h hh => by rw [hml]; exact hrow h hh) (by show 0 + _ ≤ _; omega)
        rw [hml] at hm1
        have hl1 : ((Mir.HallS.new Pl).weave row).1.hands.length ≤ 200 := Nat.le_trans hl1 (by show 0 + _ ≤ _; omega)
        generalize (Mir.HallS.new Pl).weave row = Sw at I1 hm1 hl1 ⊢
        obtain ⟨S, done⟩ := Sw
        dsimp only at I1 hm1 hl1 ⊢
        clear I0
        ktf_call "go"
        refine meth_hall (I := hiE E) (x := hx) (L := L1) (S := S) (by ktf_call "mem") rfl (by decide) ?_
        ktf_call "go"
        refine z_records (x := hx) (L := L1) (S := S) (by ktf_call "ent") (inv_ended I1 (by omega)) fun rp L2 as rs hL2 hrs hcore => ?_
        ktf_call "go"
        refine We.ent (ps' := [pt rp (.lst (as.map V.ref)), tups L2]) (by ktf_call "ent") ?_
        refine we_lc (wi_L ?_)
        ktf_call "go"
        refine ⟨rp, _, rfl, by ktf_call "rdl", fun d i acc ps => ∃ as', RecsIn L2 as' ((rs.take i).filter fun r => decide (r.deed = .one)) ∧ acc = as'.map V.ref ∧ Ent ps (pt d (.lst acc) :: [pt rp (.lst (as.map V.ref)), tups L2]), fun d => ⟨[], RecsIn.nil, rfl, by ktf_call "ent"⟩, ?_, ?_, ?_⟩
        · rintro d i acc ps ⟨as', _, rfl, e⟩ _
          exact RdL.ent e (by ktf_call "rdl")
        · rintro d i y ex acc ps hi ⟨hy, rfl⟩ ⟨as', hrs', rfl, e⟩
          replace hi : i < rs.length := by simpa [srcL, hrs.1] using hi
          have hal := hrs.1
          rw [List.getElem?_map, getD_lt (d := 0) (by omega)] at hy
          have hy := Option.some.inj hy
          subst hy
          obtain ⟨r, hr, hin⟩ := RecsIn.at' hrs hi
          refine Wg.ent e ?_
          ktf_call "go"
          refine w2_ixT (rdt_tups (L := L2) (by ktf_call "mem") hin.1) (atI_nat (j := 1) rfl) ?_
          ktf_call "go"
          refine w2_eqDeed (d := r.deed) (e := .one) (rdt_tups (L := L2) (by ktf_call "mem") hin.2.1) (by show RdT _ _ _ [V.str _]; ktf_call "rdt") ?_
          ktf_call "go"
          refine iteD (fun hw => ?_) (fun hw => ?_)
          · have hsz : (as'.map V.ref).length < sizeLine := by
              rw [List.length_map, hrs'.1]
              have := List.length_filter_le (fun r : Rec => decide (r.deed = .one)) (rs.take i)
              have h3 : rs.length ≤ 90000 := by
                have := congrArg List.length hcore
                rw [List.length_map, List.length_map] at this
                have := inv_ended I1 (by omega)
                omega
              rw [List.length_take] at this
              exact Nat.lt_of_le_of_lt (m := 90000) (by omega) (by decide)
            ktf_call "go"
            refine ⟨as' ++ [as.getD i 0], recsIn_take hrs' hr hin (decide_eq_true hw), by simp, ?_⟩
            ktf_call "ent"
          · ktf_call "go"
            refine ⟨as', ?_, rfl, by ktf_call "ent"⟩
            rw [take_skip hr (decide_eq_false hw)]
            exact hrs'
        rintro d1 acc ps ⟨as1, hrs1, rfl, e1⟩
        have e3 : (srcL K rp (as.map V.ref)).n = rs.length := by simp [srcL, hrs.1]
        rw [e3, List.take_length] at hrs1
        clear e3
        refine Wg.ent (ex := []) e1 ?_
        ktf_call "go"
        refine We.ent (ps' := [pt d1 (.lst (as1.map V.ref)), pt rp (.lst (as.map V.ref)), tups L2]) (by ktf_call "ent") ?_
        refine we_lc (wi_L ?_)
        ktf_call "go"
        refine ⟨rp, _, rfl, by ktf_call "rdl", fun d i acc ps => ∃ as', RecsIn L2 as' ((rs.take i).filter fun r => decide (r.deed = .count)) ∧ acc = as'.map V.ref ∧ Ent ps (pt d (.lst acc) :: [pt d1 (.lst (as1.map V.ref)), pt rp (.lst (as.map V.ref)), tups L2]), fun d => ⟨[], RecsIn.nil, rfl, by ktf_call "ent"⟩, ?_, ?_, ?_⟩
        · rintro d i acc ps ⟨as', _, rfl, e⟩ _
          exact RdL.ent e (by ktf_call "rdl")
        · rintro d i y ex acc ps hi ⟨hy, rfl⟩ ⟨as', hrs', rfl, e⟩
          replace hi : i < rs.length := by simpa [srcL, hrs.1] using hi
          have hal := hrs.1
          rw [List.getElem?_map, getD_lt (d := 0) (by omega)] at hy
          have hy := Option.some.inj hy
          subst hy
          obtain ⟨r, hr, hin⟩ := RecsIn.at' hrs hi
          refine Wg.ent e ?_
          ktf_call "go"
          refine w2_ixT (rdt_tups (L := L2) (by ktf_call "mem") hin.1) (atI_nat (j := 1) rfl) ?_
          ktf_call "go"
          refine w2_eqDeed (d := r.deed) (e := .count) (rdt_tups (L := L2) (by ktf_call "mem") hin.2.1) (by show RdT _ _ _ [V.str _]; ktf_call "rdt") ?_
          ktf_call "go"
          refine iteD (fun hw => ?_) (fun hw => ?_)
          · have hsz : (as'.map V.ref).length < sizeLine := by
              rw [List.length_map, hrs'.1]
              have := List.length_filter_le (fun r : Rec => decide (r.deed = .count)) (rs.take i)
              have h3 : rs.length ≤ 90000 := by
                have := congrArg List.length hcore
                rw [List.length_map, List.length_map] at this
                have := inv_ended I1 (by omega)
                omega
              rw [List.length_take] at this
              exact Nat.lt_of_le_of_lt (m := 90000) (by omega) (by decide)
            ktf_call "go"
            refine ⟨as' ++ [as.getD i 0], recsIn_take hrs' hr hin (decide_eq_true hw), by simp, ?_⟩
            ktf_call "ent"
          · ktf_call "go"
            refine ⟨as', ?_, rfl, by ktf_call "ent"⟩
            rw [take_skip hr (decide_eq_false hw)]
            exact hrs'
        rintro d2 acc ps ⟨as2, hrs2, rfl, e2⟩
        have e3 : (srcL K rp (as.map V.ref)).n = rs.length := by simp [srcL, hrs.1]
        rw [e3, List.take_length] at hrs2
        clear e3
        refine Wg.ent (ex := []) e2 ?_
        ktf_call "go"
        have hal3 := hrs2.1
        refine ws_for (wi_L ?_)
        ktf_call "go"
        refine ⟨d2, _, rfl, by ktf_call "rdl", fun i σ ps => ∃ v7 v8 v9 v10 v11 v12 v13 v14, σ = [some (.ref a), some (.int m), some (.ref b), some (.ref hx), some (.ref rp), some (.ref d1), some (.ref d2), v7, v8, v9, v10, v11, v12, v13, v14] ∧
          Ent ps [pt d2 (.lst (as2.map V.ref)), pt d1 (.lst (as1.map V.ref)), pt rp (.lst (as.map V.ref)), tups L2], ⟨_, _, _, _, _, _, _, _, rfl, by ktf_call "ent"⟩, ?_, ?_, ?_⟩
        · rintro i σ ps ⟨v7, v8, v9, v10, v11, v12, v13, v14, rfl, e⟩ _
          exact RdL.ent e (by ktf_call "rdl")
        · rintro i y ex σ ps hi ⟨hy, rfl⟩ ⟨v7, v8, v9, v10, v11, v12, v13, v14, rfl, e⟩
          replace hi : i < (rs.filter fun r => decide (r.deed = .count)).length := by simpa [srcL, hrs2.1] using hi
          rw [List.getElem?_map, getD_lt (d := 0) (by omega)] at hy
          have hy := Option.some.inj hy
          subst hy
          obtain ⟨r, hr, hin⟩ := RecsIn.at' hrs2 hi
          have hrm := List.mem_filter.mp (List.mem_of_getElem? hr)
          refine Wg.ent e ?_
          ktf_call "go"
          refine wg_tup (xs := r.vals) (rdt_tups (L := L2) (by ktf_call "mem") hin.1) rfl ?_
          unfold Rec.vals
          have hlr : rs.length ≤ 90000 := by
            have := congrArg List.length hcore
            rw [List.length_map, List.length_map] at this
            have := inv_ended I1 (by omega)
            omega
          have hmc : ∀ o ∈ rs, Rec.core o ∈ S.ended.map Mir.crD := fun o ho => by
            have h : Rec.core o ∈ rs.map Rec.core := List.mem_map_of_mem ho
            rw [hcore] at h; exact h
          obtain ⟨ka, ha, lo, up, prev⟩ := Mir.law19 I1 (hmc r hrm.1) (of_decide_eq_true hrm.2)
          have hcore' : rs.map Rec.core = S.ended.map Mir.crD := hcore
          rw [← hcore', len_core] at lo up
          have hv : r.v = .int ka := by
            have h := hin.2.2
            have e1 : r.an = .int ka := ha
            rw [e1] at h; exact h
          rw [hv]
          ktf_call "go"
          refine we_lc (wi_L ?_)
          ktf_call "go"
          refine ⟨d1, _, rfl, by ktf_call "rdl", fun d i acc ps => acc.length = (((rs.filter fun r => decide (r.deed = .one)).take i).filter fun o => decide (o.e < r.b)).length ∧ Ent ps (pt d (.lst acc) :: [pt d2 (.lst (as2.map V.ref)), pt d1 (.lst (as1.map V.ref)), pt rp (.lst (as.map V.ref)), tups L2]), fun d => ⟨rfl, by ktf_call "ent"⟩, ?_, ?_, ?_⟩
          · rintro d i acc ps ⟨_, e⟩ _
            exact RdL.ent e (by ktf_call "rdl")
          · rintro d i2 y ex acc ps hi2 ⟨hy, rfl⟩ ⟨hac, e⟩
            have hal4 := hrs1.1
            replace hi2 : i2 < (rs.filter fun r => decide (r.deed = .one)).length := by simpa [srcL, hrs1.1] using hi2
            rw [List.getElem?_map, getD_lt (d := 0) (by omega)] at hy
            have hy := Option.some.inj hy
            subst hy
            obtain ⟨o, ho, hino⟩ := RecsIn.at' hrs1 hi2
            have hsz : acc.length < sizeLine := by
              have h1 := List.length_filter_le (fun o : Rec => decide (o.e < r.b)) ((rs.filter fun r => decide (r.deed = .one)).take i2)
              have h2 := List.length_filter_le (fun r : Rec => decide (r.deed = .one)) rs
              rw [List.length_take] at h1
              exact Nat.lt_of_le_of_lt (m := 90000) (by omega) (by decide)
            refine Wg.ent e ?_
            ktf_call "go"
            refine w2_ixT (rdt_tups (L := L2) (by ktf_call "mem") hino.1) (atI_nat (j := 3) rfl) ?_
            ktf_call "go"
            refine iteD (fun hw => ?_) (fun hw => ?_)
            · ktf_call "go"
              exact ⟨len_take_snoc hac ho (decide_eq_true hw), by ktf_call "ent"⟩
            · ktf_call "go"
              refine ⟨?_, by ktf_call "ent"⟩
              rw [take_skip ho (decide_eq_false hw)]
              exact hac
          rintro d3 acc3 ps ⟨hac3, e⟩
          have e3 : (srcL K d1 (as1.map V.ref)).n = (rs.filter fun r => decide (r.deed = .one)).length := by simp [srcL, hrs1.1]
          rw [e3, List.take_length] at hac3
          clear e3
          refine Wa.ent e ?_
          ktf_call "go"
          refine iteD (fun hw => ?_) (fun _ => ?_)
          · rw [ones_len] at hac3
            exact absurd hw (by rw [hac3]; exact Int.not_lt.mpr (Int.ofNat_le.mpr lo))
          ktf_call "go"
          refine we_lc (wi_L ?_)
          ktf_call "go"
          refine ⟨d1, _, rfl, by ktf_call "rdl", fun d i acc ps => acc.length = (((rs.filter fun r => decide (r.deed = .one)).take i).filter fun o => decide (o.b < r.e)).length ∧ Ent ps (pt d (.lst acc) :: [pt d2 (.lst (as2.map V.ref)), pt d1 (.lst (as1.map V.ref)), pt rp (.lst (as.map V.ref)), tups L2]), fun d => ⟨rfl, by ktf_call "ent"⟩, ?_, ?_, ?_⟩
          · rintro d i acc ps ⟨_, e⟩ _
            exact RdL.ent e (by ktf_call "rdl")
          · rintro d i2 y ex acc ps hi2 ⟨hy, rfl⟩ ⟨hac, e⟩
            have hal4 := hrs1.1
            replace hi2 : i2 < (rs.filter fun r => decide (r.deed = .one)).length := by simpa [srcL, hrs1.1] using hi2
            rw [List.getElem?_map, getD_lt (d := 0) (by omega)] at hy
            have hy := Option.some.inj hy
            subst hy
            obtain ⟨o, ho, hino⟩ := RecsIn.at' hrs1 hi2
            have hsz : acc.length < sizeLine := by
              have h1 := List.length_filter_le (fun o : Rec => decide (o.b < r.e)) ((rs.filter fun r => decide (r.deed = .one)).take i2)
              have h2 := List.length_filter_le (fun r : Rec => decide (r.deed = .one)) rs
              rw [List.length_take] at h1
              exact Nat.lt_of_le_of_lt (m := 90000) (by omega) (by decide)
            refine Wg.ent e ?_
            ktf_call "go"
            refine w2_ixT (rdt_tups (L := L2) (by ktf_call "mem") hino.1) (atI_nat (j := 2) rfl) ?_
            ktf_call "go"
            refine iteD (fun hw => ?_) (fun hw => ?_)
            · ktf_call "go"
              exact ⟨len_take_snoc hac ho (decide_eq_true hw), by ktf_call "ent"⟩
            · ktf_call "go"
              refine ⟨?_, by ktf_call "ent"⟩
              rw [take_skip ho (decide_eq_false hw)]
              exact hac
          rintro d4 acc4 ps ⟨hac4, e⟩
          have e3 : (srcL K d1 (as1.map V.ref)).n = (rs.filter fun r => decide (r.deed = .one)).length := by simp [srcL, hrs1.1]
          rw [e3, List.take_length] at hac4
          clear e3
          refine Wa.ent e ?_
          ktf_call "go"
          refine iteD (fun hw => ?_) (fun _ => ?_)
          · rw [ones_len] at hac4
            exact absurd hw (by rw [hac4]; exact Int.not_lt.mpr (Int.ofNat_le.mpr up))
          ktf_call "go"
          refine we_lc (wi_L ?_)
          ktf_call "go"
          refine ⟨d2, _, rfl, by ktf_call "rdl", fun d i acc ps => acc = [] ∧ Ent ps (pt d (.lst []) :: [pt d2 (.lst (as2.map V.ref)), pt d1 (.lst (as1.map V.ref)), pt rp (.lst (as.map V.ref)), tups L2]), fun d => ⟨rfl, by ktf_call "ent"⟩, ?_, ?_, ?_⟩
          · rintro d i acc ps ⟨_, e⟩ _
            exact RdL.ent e (by ktf_call "rdl")
          · rintro d i2 y ex acc ps hi2 ⟨hy, rfl⟩ ⟨rfl, e⟩
            replace hi2 : i2 < (rs.filter fun r => decide (r.deed = .count)).length := by simpa [srcL, hrs2.1] using hi2
            rw [List.getElem?_map, getD_lt (d := 0) (by omega)] at hy
            have hy := Option.some.inj hy
            subst hy
            obtain ⟨o, ho, hino⟩ := RecsIn.at' hrs2 hi2
            have hom := List.mem_filter.mp (List.mem_of_getElem? ho)
            obtain ⟨ko, hko, _, _, _⟩ := Mir.law19 I1 (hmc o hom.1) (of_decide_eq_true hom.2)
            have hov : o.v = .int ko := by
              have h := hino.2.2
              have e1 : o.an = .int ko := hko
              rw [e1] at h; exact h
            refine Wg.ent e ?_
            ktf_call "go"
            refine w2_ixT (rdt_tups (L := L2) (by ktf_call "mem") hino.1) (atI_nat (j := 3) rfl) ?_
            ktf_call "go"
            refine iteD (fun hw => ?_) (fun hw => ?_)
            · ktf_call "go"
              refine w2_ixT (v := .int ko) (rdt_tups (L := L2) (by ktf_call "mem") hino.1) (atI_nat (j := 4) (by unfold Rec.vals; rw [hov]; rfl)) ?_
              ktf_call "go"
              refine iteD (fun hw2 => ?_) (fun hw2 => ?_)
              · have := prev _ (hmc o hom.1) (of_decide_eq_true hom.2) hw ko hko
                exact absurd hw2 (by omega)
              · ktf_call "go"
                exact ⟨rfl, by ktf_call "ent"⟩
            · ktf_call "go"
              exact ⟨rfl, by ktf_call "ent"⟩
          rintro d5 acc5 ps ⟨rfl, e⟩
          refine We.ent e ?_
          ktf_call "go"
          exact ⟨_, _, _, _, _, _, _, _, rfl, by ktf_call "ent"⟩
        · rintro σ ps ⟨v7, v8, v9, v10, v11, v12, v13, v14, rfl, e⟩
          refine Ws.ent e ?_
          ktf_call "go"
          refine we_lc (wi_L ?_)
          ktf_call "go"
          refine ⟨d1, _, rfl, by ktf_call "rdl", fun d i acc ps => acc = [] ∧ Ent ps (pt d (.lst []) :: [pt d2 (.lst (as2.map V.ref)), pt d1 (.lst (as1.map V.ref)), pt rp (.lst (as.map V.ref)), tups L2]), fun d => ⟨rfl, by ktf_call "ent"⟩, ?_, ?_, ?_⟩
          · rintro d i acc ps ⟨_, e⟩ _
            exact RdL.ent e (by ktf_call "rdl")
          · rintro d i2 y ex acc ps hi2 ⟨hy, rfl⟩ ⟨rfl, e⟩
            have hal4 := hrs1.1
            replace hi2 : i2 < (rs.filter fun r => decide (r.deed = .one)).length := by simpa [srcL, hrs1.1] using hi2
            rw [List.getElem?_map, getD_lt (d := 0) (by omega)] at hy
            have hy := Option.some.inj hy
            subst hy
            obtain ⟨o, ho, hino⟩ := RecsIn.at' hrs1 hi2
            have hom := List.mem_filter.mp (List.mem_of_getElem? ho)
            have hoc : Rec.core o ∈ S.ended.map Mir.crD := by
              have h : Rec.core o ∈ rs.map Rec.core := List.mem_map_of_mem hom.1
              rw [hcore] at h; exact h
            have hov : o.v = .non := by
              have h := hino.2.2
              have e1 : o.an = .non := Mir.law19_one I1 hoc (of_decide_eq_true hom.2)
              rw [e1] at h; exact h
            refine Wg.ent e ?_
            ktf_call "go"
            refine w2_ixT (v := .non) (rdt_tups (L := L2) (by ktf_call "mem") hino.1) (atI_nat (j := 4) (by unfold Rec.vals; rw [hov]; rfl)) ?_
            ktf_call "go"
            exact ⟨rfl, by ktf_call "ent"⟩
          rintro d5 acc5 ps ⟨rfl, e⟩
          refine We.ent e ?_
          ktf_call "go"
          exact .here (q _)) only [↓Bx.tr]
end
end
end
end
end
end
end
end
noncomputable def AllN (P : List Value → Prop) : Nat → Prop
  | 0 => P []
  | n + 1 => ∀ a : Value, AllN (fun us => P (a :: us)) n
theorem allN {n : Nat} : ∀ {P : List Value → Prop}, AllN P n → ∀ (us : List Value), us.length = n → P us := by
  induction n with
  | zero => intro P h us e; rw [List.eq_nil_of_length_eq_zero e]; exact h
  | succ n ih => intro P h us e; cases us with
    | nil => cases e
    | cons a us => exact ih (P := fun us => P (a :: us)) (h a) us (Nat.succ.inj e)
theorem noCons {K : PySem.W.Frag} {C : Addr} {f : Str} {r : List Str} (h : NoAttr K C f) (t : ∀ g ∈ r, NoAttr K C g) : ∀ g ∈ f :: r, NoAttr K C g := fun g m => by
  rcases List.mem_cons.mp m with e | m
  · subst e; exact h
  · exact t g m
theorem all_mk {l : PySem.W.OpenLaw} {w : World} {K : PySem.W.Frag} {h : Heap} {mg : Str → Option Value} {fa : Addr} (X : K.In h) (G : h.Ns mainGlobals mg) (hfa : mg "law" = some (.ref fa))
    {f_Boxes_init : Addr} {oc_Boxes_init kV_Boxes_init dc_Boxes_init pm_Boxes_init cd_Boxes_init ct_Boxes_init : Value} {od_Boxes_init an_Boxes_init : Option Addr} {sl_Boxes_init : Array (Option Value)}
    {f_Boxes_need : Addr} {oc_Boxes_need kV_Boxes_need dc_Boxes_need pm_Boxes_need cd_Boxes_need ct_Boxes_need : Value} {od_Boxes_need an_Boxes_need : Option Addr} {sl_Boxes_need : Array (Option Value)}
    {f_Boxes_take : Addr} {oc_Boxes_take kV_Boxes_take dc_Boxes_take pm_Boxes_take cd_Boxes_take ct_Boxes_take : Value} {od_Boxes_take an_Boxes_take : Option Addr} {sl_Boxes_take : Array (Option Value)}
    {f_Boxes_put : Addr} {oc_Boxes_put kV_Boxes_put dc_Boxes_put pm_Boxes_put cd_Boxes_put ct_Boxes_put : Value} {od_Boxes_put an_Boxes_put : Option Addr} {sl_Boxes_put : Array (Option Value)}
    {f_need_deed : Addr} {oc_need_deed kV_need_deed dc_need_deed pm_need_deed cd_need_deed ct_need_deed : Value} {od_need_deed an_need_deed : Option Addr} {sl_need_deed : Array (Option Value)}
    {f_packed : Addr} {oc_packed kV_packed dc_packed pm_packed cd_packed ct_packed : Value} {od_packed an_packed : Option Addr} {sl_packed : Array (Option Value)}
    {f_parted : Addr} {oc_parted kV_parted dc_parted pm_parted cd_parted ct_parted : Value} {od_parted an_parted : Option Addr} {sl_parted : Array (Option Value)}
    {f_cell_of : Addr} {oc_cell_of kV_cell_of dc_cell_of pm_cell_of cd_cell_of ct_cell_of : Value} {od_cell_of an_cell_of : Option Addr} {sl_cell_of : Array (Option Value)}
    {f_Scan_init : Addr} {oc_Scan_init kV_Scan_init dc_Scan_init pm_Scan_init cd_Scan_init ct_Scan_init : Value} {od_Scan_init an_Scan_init : Option Addr} {sl_Scan_init : Array (Option Value)}
    {f_Scan_step : Addr} {oc_Scan_step kV_Scan_step dc_Scan_step pm_Scan_step cd_Scan_step ct_Scan_step : Value} {od_Scan_step an_Scan_step : Option Addr} {sl_Scan_step : Array (Option Value)}
    {f_Scan_looked : Addr} {oc_Scan_looked kV_Scan_looked dc_Scan_looked pm_Scan_looked cd_Scan_looked ct_Scan_looked : Value} {od_Scan_looked an_Scan_looked : Option Addr} {sl_Scan_looked : Array (Option Value)}
    {f_Memory_init : Addr} {oc_Memory_init kV_Memory_init dc_Memory_init pm_Memory_init cd_Memory_init ct_Memory_init : Value} {od_Memory_init an_Memory_init : Option Addr} {sl_Memory_init : Array (Option Value)}
    {f_Work_init : Addr} {oc_Work_init kV_Work_init dc_Work_init pm_Work_init cd_Work_init ct_Work_init : Value} {od_Work_init an_Work_init : Option Addr} {sl_Work_init : Array (Option Value)}
    {f_Work_step : Addr} {oc_Work_step kV_Work_step dc_Work_step pm_Work_step cd_Work_step ct_Work_step : Value} {od_Work_step an_Work_step : Option Addr} {sl_Work_step : Array (Option Value)}
    {f_One_step : Addr} {oc_One_step kV_One_step dc_One_step pm_One_step cd_One_step ct_One_step : Value} {od_One_step an_One_step : Option Addr} {sl_One_step : Array (Option Value)}
    {f_Count_init : Addr} {oc_Count_init kV_Count_init dc_Count_init pm_Count_init cd_Count_init ct_Count_init : Value} {od_Count_init an_Count_init : Option Addr} {sl_Count_init : Array (Option Value)}
    {f_Count_step : Addr} {oc_Count_step kV_Count_step dc_Count_step pm_Count_step cd_Count_step ct_Count_step : Value} {od_Count_step an_Count_step : Option Addr} {sl_Count_step : Array (Option Value)}
    {f_Look_init : Addr} {oc_Look_init kV_Look_init dc_Look_init pm_Look_init cd_Look_init ct_Look_init : Value} {od_Look_init an_Look_init : Option Addr} {sl_Look_init : Array (Option Value)}
    {f_Look_step : Addr} {oc_Look_step kV_Look_step dc_Look_step pm_Look_step cd_Look_step ct_Look_step : Value} {od_Look_step an_Look_step : Option Addr} {sl_Look_step : Array (Option Value)}
    {f_Change_init : Addr} {oc_Change_init kV_Change_init dc_Change_init pm_Change_init cd_Change_init ct_Change_init : Value} {od_Change_init an_Change_init : Option Addr} {sl_Change_init : Array (Option Value)}
    {f_Change_step : Addr} {oc_Change_step kV_Change_step dc_Change_step pm_Change_step cd_Change_step ct_Change_step : Value} {od_Change_step an_Change_step : Option Addr} {sl_Change_step : Array (Option Value)}
    {f_Give_init : Addr} {oc_Give_init kV_Give_init dc_Give_init pm_Give_init cd_Give_init ct_Give_init : Value} {od_Give_init an_Give_init : Option Addr} {sl_Give_init : Array (Option Value)}
    {f_Give_step : Addr} {oc_Give_step kV_Give_step dc_Give_step pm_Give_step cd_Give_step ct_Give_step : Value} {od_Give_step an_Give_step : Option Addr} {sl_Give_step : Array (Option Value)}
    {f_Take_init : Addr} {oc_Take_init kV_Take_init dc_Take_init pm_Take_init cd_Take_init ct_Take_init : Value} {od_Take_init an_Take_init : Option Addr} {sl_Take_init : Array (Option Value)}
    {f_Take_step : Addr} {oc_Take_step kV_Take_step dc_Take_step pm_Take_step cd_Take_step ct_Take_step : Value} {od_Take_step an_Take_step : Option Addr} {sl_Take_step : Array (Option Value)}
    {f_Take_rank : Addr} {oc_Take_rank kV_Take_rank dc_Take_rank pm_Take_rank cd_Take_rank ct_Take_rank : Value} {od_Take_rank an_Take_rank : Option Addr} {sl_Take_rank : Array (Option Value)}
    {f_work_of : Addr} {oc_work_of kV_work_of dc_work_of pm_work_of cd_work_of ct_work_of : Value} {od_work_of an_work_of : Option Addr} {sl_work_of : Array (Option Value)}
    {f_Done_init : Addr} {oc_Done_init kV_Done_init dc_Done_init pm_Done_init cd_Done_init ct_Done_init : Value} {od_Done_init an_Done_init : Option Addr} {sl_Done_init : Array (Option Value)}
    {f_Hall_init : Addr} {oc_Hall_init kV_Hall_init dc_Hall_init pm_Hall_init cd_Hall_init ct_Hall_init : Value} {od_Hall_init an_Hall_init : Option Addr} {sl_Hall_init : Array (Option Value)}
    {f_Hall_need_hand : Addr} {oc_Hall_need_hand kV_Hall_need_hand dc_Hall_need_hand pm_Hall_need_hand cd_Hall_need_hand ct_Hall_need_hand : Value} {od_Hall_need_hand an_Hall_need_hand : Option Addr} {sl_Hall_need_hand : Array (Option Value)}
    {f_Hall_step : Addr} {oc_Hall_step kV_Hall_step dc_Hall_step pm_Hall_step cd_Hall_step ct_Hall_step : Value} {od_Hall_step an_Hall_step : Option Addr} {sl_Hall_step : Array (Option Value)}
    {f_Hall_weave : Addr} {oc_Hall_weave kV_Hall_weave dc_Hall_weave pm_Hall_weave cd_Hall_weave ct_Hall_weave : Value} {od_Hall_weave an_Hall_weave : Option Addr} {sl_Hall_weave : Array (Option Value)}
    {f_Hall_records : Addr} {oc_Hall_records kV_Hall_records dc_Hall_records pm_Hall_records cd_Hall_records ct_Hall_records : Value} {od_Hall_records an_Hall_records : Option Addr} {sl_Hall_records : Array (Option Value)}
    {f__law_cell : Addr} {oc__law_cell kV__law_cell dc__law_cell pm__law_cell cd__law_cell ct__law_cell : Value} {od__law_cell an__law_cell : Option Addr} {sl__law_cell : Array (Option Value)}
    {f__law_dice : Addr} {oc__law_dice kV__law_dice dc__law_dice pm__law_dice cd__law_dice ct__law_dice : Value} {od__law_dice an__law_dice : Option Addr} {sl__law_dice : Array (Option Value)}
    {f__law_off : Addr} {oc__law_off kV__law_off dc__law_off pm__law_off cd__law_off ct__law_off : Value} {od__law_off an__law_off : Option Addr} {sl__law_off : Array (Option Value)}
    {f__law_deed : Addr} {oc__law_deed kV__law_deed dc__law_deed pm__law_deed cd__law_deed ct__law_deed : Value} {od__law_deed an__law_deed : Option Addr} {sl__law_deed : Array (Option Value)}
    {f__law_plans : Addr} {oc__law_plans kV__law_plans dc__law_plans pm__law_plans cd__law_plans ct__law_plans : Value} {od__law_plans an__law_plans : Option Addr} {sl__law_plans : Array (Option Value)}
    {f__law_weave : Addr} {oc__law_weave kV__law_weave dc__law_weave pm__law_weave cd__law_weave ct__law_weave : Value} {od__law_weave an__law_weave : Option Addr} {sl__law_weave : Array (Option Value)}
    {f_law : Addr} {oc_law kV_law dc_law pm_law cd_law ct_law : Value} {od_law an_law : Option Addr} {sl_law : Array (Option Value)}
    {C_Boxes : Addr}
    {C_Scan : Addr}
    {C_Memory : Addr}
    {C_Work : Addr}
    {C_One : Addr}
    {C_Count : Addr}
    {C_Look : Addr}
    {C_Change : Addr}
    {C_Give : Addr}
    {C_Take : Addr}
    {C_Done : Addr}
    {C_Hall : Addr}
    {e_HandsError : Addr}
    {e_NoNumber : Addr}
    {e_NoBox : Addr}
    {e_NoHand : Addr}
    {e_NoDeed : Addr}
    {gt_MOST_NUMBER : Tok}
    {a_WITH_NUMBER : Addr} {oc_WITH_NUMBER : Option Addr} {nn_WITH_NUMBER : Nat} {sl_WITH_NUMBER : Array (Option Value)} {tk_WITH_NUMBER_0 : Tok} {tk_WITH_NUMBER_1 : Tok} {tk_WITH_NUMBER_2 : Tok} {tk_WITH_NUMBER_3 : Tok}
    {a_ALONE : Addr} {oc_ALONE : Option Addr} {nn_ALONE : Nat} {sl_ALONE : Array (Option Value)} {tk_ALONE_0 : Tok} {tk_ALONE_1 : Tok} {tk_ALONE_2 : Tok} {tk_ALONE_3 : Tok} {tk_ALONE_4 : Tok} {tk_ALONE_5 : Tok}
    {gt_BASE : Tok}
    {a_PLACES : Addr} {es_PLACES : Array DictEntry} {nn_PLACES : Nat} {tk_PLACES_0 : Tok} {tk_PLACES_1 : Tok} {tk_PLACES_2 : Tok} {tk_PLACES_3 : Tok} {tk_PLACES_4 : Tok} {tk_PLACES_5 : Tok} {tk_PLACES_6 : Tok} {tk_PLACES_7 : Tok} {tk_PLACES_8 : Tok} {tk_PLACES_9 : Tok}
    {gt_MOST_HANDS : Tok}
    {gt_MOST_DEEDS : Tok}
    {gt_THINGS : Tok}
    (n_f_need_deed : PySem.W.nsIn K mainGlobals "need_deed" = some (some (.ref f_need_deed)))
    (n_f_packed : PySem.W.nsIn K mainGlobals "packed" = some (some (.ref f_packed)))
    (n_f_parted : PySem.W.nsIn K mainGlobals "parted" = some (some (.ref f_parted)))
    (n_f_cell_of : PySem.W.nsIn K mainGlobals "cell_of" = some (some (.ref f_cell_of)))
    (n_f_work_of : PySem.W.nsIn K mainGlobals "work_of" = some (some (.ref f_work_of)))
    (n_f__law_cell : PySem.W.nsIn K mainGlobals "_law_cell" = some (some (.ref f__law_cell)))
    (n_f__law_dice : PySem.W.nsIn K mainGlobals "_law_dice" = some (some (.ref f__law_dice)))
    (n_f__law_off : PySem.W.nsIn K mainGlobals "_law_off" = some (some (.ref f__law_off)))
    (n_f__law_deed : PySem.W.nsIn K mainGlobals "_law_deed" = some (some (.ref f__law_deed)))
    (n_f__law_plans : PySem.W.nsIn K mainGlobals "_law_plans" = some (some (.ref f__law_plans)))
    (n_f__law_weave : PySem.W.nsIn K mainGlobals "_law_weave" = some (some (.ref f__law_weave)))
    (n_f_law : PySem.W.nsIn K mainGlobals "law" = some (some (.ref f_law)))
    (n_c_Boxes : PySem.W.nsIn K mainGlobals "Boxes" = some (some (.ref C_Boxes)))
    (n_c_Scan : PySem.W.nsIn K mainGlobals "Scan" = some (some (.ref C_Scan)))
    (n_c_Memory : PySem.W.nsIn K mainGlobals "Memory" = some (some (.ref C_Memory)))
    (n_c_Work : PySem.W.nsIn K mainGlobals "Work" = some (some (.ref C_Work)))
    (n_c_One : PySem.W.nsIn K mainGlobals "One" = some (some (.ref C_One)))
    (n_c_Count : PySem.W.nsIn K mainGlobals "Count" = some (some (.ref C_Count)))
    (n_c_Look : PySem.W.nsIn K mainGlobals "Look" = some (some (.ref C_Look)))
    (n_c_Change : PySem.W.nsIn K mainGlobals "Change" = some (some (.ref C_Change)))
    (n_c_Give : PySem.W.nsIn K mainGlobals "Give" = some (some (.ref C_Give)))
    (n_c_Take : PySem.W.nsIn K mainGlobals "Take" = some (some (.ref C_Take)))
    (n_c_Done : PySem.W.nsIn K mainGlobals "Done" = some (some (.ref C_Done)))
    (n_c_Hall : PySem.W.nsIn K mainGlobals "Hall" = some (some (.ref C_Hall)))
    (n_e_HandsError : PySem.W.nsIn K mainGlobals "HandsError" = some (some (.ref e_HandsError)))
    (n_e_NoNumber : PySem.W.nsIn K mainGlobals "NoNumber" = some (some (.ref e_NoNumber)))
    (n_e_NoBox : PySem.W.nsIn K mainGlobals "NoBox" = some (some (.ref e_NoBox)))
    (n_e_NoHand : PySem.W.nsIn K mainGlobals "NoHand" = some (some (.ref e_NoHand)))
    (n_e_NoDeed : PySem.W.nsIn K mainGlobals "NoDeed" = some (some (.ref e_NoDeed)))
    (n_k_MOST_NUMBER : PySem.W.nsIn K mainGlobals "MOST_NUMBER" = some (some (.int 999 gt_MOST_NUMBER)))
    (n_k_WITH_NUMBER : PySem.W.nsIn K mainGlobals "WITH_NUMBER" = some (some (.ref a_WITH_NUMBER)))
    (n_k_ALONE : PySem.W.nsIn K mainGlobals "ALONE" = some (some (.ref a_ALONE)))
    (n_k_BASE : PySem.W.nsIn K mainGlobals "BASE" = some (some (.int 1000000 gt_BASE)))
    (n_k_PLACES : PySem.W.nsIn K mainGlobals "PLACES" = some (some (.ref a_PLACES)))
    (n_k_MOST_HANDS : PySem.W.nsIn K mainGlobals "MOST_HANDS" = some (some (.int 4 gt_MOST_HANDS)))
    (n_k_MOST_DEEDS : PySem.W.nsIn K mainGlobals "MOST_DEEDS" = some (some (.int 40 gt_MOST_DEEDS)))
    (n_k_THINGS : PySem.W.nsIn K mainGlobals "THINGS" = some (some (.int 5 gt_THINGS)))
    (mi_Boxes : PySem.W.findIn K (.ref C_Boxes) "__init__" = some (some (.ref f_Boxes_init)))
    (ma_Boxes_need : PySem.W.findIn K (.ref C_Boxes) "need" = some (some (.ref f_Boxes_need)))
    (ma_Boxes_take : PySem.W.findIn K (.ref C_Boxes) "take" = some (some (.ref f_Boxes_take)))
    (ma_Boxes_put : PySem.W.findIn K (.ref C_Boxes) "put" = some (some (.ref f_Boxes_put)))
    (mi_Scan : PySem.W.findIn K (.ref C_Scan) "__init__" = some (some (.ref f_Scan_init)))
    (ma_Scan_step : PySem.W.findIn K (.ref C_Scan) "step" = some (some (.ref f_Scan_step)))
    (ma_Scan_looked : PySem.W.findIn K (.ref C_Scan) "looked" = some (some (.ref f_Scan_looked)))
    (mi_Memory : PySem.W.findIn K (.ref C_Memory) "__init__" = some (some (.ref f_Memory_init)))
    (mi_Work : PySem.W.findIn K (.ref C_Work) "__init__" = some (some (.ref f_Work_init)))
    (ma_Work_step : PySem.W.findIn K (.ref C_Work) "step" = some (some (.ref f_Work_step)))
    (mi_One : PySem.W.findIn K (.ref C_One) "__init__" = some (some (.ref f_Work_init)))
    (ma_One_step : PySem.W.findIn K (.ref C_One) "step" = some (some (.ref f_One_step)))
    (mi_Count : PySem.W.findIn K (.ref C_Count) "__init__" = some (some (.ref f_Count_init)))
    (ma_Count_step : PySem.W.findIn K (.ref C_Count) "step" = some (some (.ref f_Count_step)))
    (mi_Look : PySem.W.findIn K (.ref C_Look) "__init__" = some (some (.ref f_Look_init)))
    (ma_Look_step : PySem.W.findIn K (.ref C_Look) "step" = some (some (.ref f_Look_step)))
    (mi_Change : PySem.W.findIn K (.ref C_Change) "__init__" = some (some (.ref f_Change_init)))
    (ma_Change_step : PySem.W.findIn K (.ref C_Change) "step" = some (some (.ref f_Change_step)))
    (mi_Give : PySem.W.findIn K (.ref C_Give) "__init__" = some (some (.ref f_Give_init)))
    (ma_Give_step : PySem.W.findIn K (.ref C_Give) "step" = some (some (.ref f_Give_step)))
    (mi_Take : PySem.W.findIn K (.ref C_Take) "__init__" = some (some (.ref f_Take_init)))
    (ma_Take_step : PySem.W.findIn K (.ref C_Take) "step" = some (some (.ref f_Take_step)))
    (ma_Take_rank : PySem.W.findIn K (.ref C_Take) "rank" = some (some (.ref f_Take_rank)))
    (mi_Done : PySem.W.findIn K (.ref C_Done) "__init__" = some (some (.ref f_Done_init)))
    (mi_Hall : PySem.W.findIn K (.ref C_Hall) "__init__" = some (some (.ref f_Hall_init)))
    (ma_Hall_need_hand : PySem.W.findIn K (.ref C_Hall) "need_hand" = some (some (.ref f_Hall_need_hand)))
    (ma_Hall_step : PySem.W.findIn K (.ref C_Hall) "step" = some (some (.ref f_Hall_step)))
    (ma_Hall_weave : PySem.W.findIn K (.ref C_Hall) "weave" = some (some (.ref f_Hall_weave)))
    (ma_Hall_records : PySem.W.findIn K (.ref C_Hall) "records" = some (some (.ref f_Hall_records)))
    (l_Boxes_init : K.lookup f_Boxes_init = some ⟨oc_Boxes_init, od_Boxes_init, .func (PySem.W.fnOf "__init__" "Boxes.__init__" (defArgs s_Boxes_init) (defBody s_Boxes_init) (defScope s_Boxes_init) .none kV_Boxes_init dc_Boxes_init pm_Boxes_init an_Boxes_init cd_Boxes_init ct_Boxes_init), sl_Boxes_init⟩)
    (l_Boxes_need : K.lookup f_Boxes_need = some ⟨oc_Boxes_need, od_Boxes_need, .func (PySem.W.fnOf "need" "Boxes.need" (defArgs s_Boxes_need) (defBody s_Boxes_need) (defScope s_Boxes_need) .none kV_Boxes_need dc_Boxes_need pm_Boxes_need an_Boxes_need cd_Boxes_need ct_Boxes_need), sl_Boxes_need⟩)
    (l_Boxes_take : K.lookup f_Boxes_take = some ⟨oc_Boxes_take, od_Boxes_take, .func (PySem.W.fnOf "take" "Boxes.take" (defArgs s_Boxes_take) (defBody s_Boxes_take) (defScope s_Boxes_take) .none kV_Boxes_take dc_Boxes_take pm_Boxes_take an_Boxes_take cd_Boxes_take ct_Boxes_take), sl_Boxes_take⟩)
    (l_Boxes_put : K.lookup f_Boxes_put = some ⟨oc_Boxes_put, od_Boxes_put, .func (PySem.W.fnOf "put" "Boxes.put" (defArgs s_Boxes_put) (defBody s_Boxes_put) (defScope s_Boxes_put) .none kV_Boxes_put dc_Boxes_put pm_Boxes_put an_Boxes_put cd_Boxes_put ct_Boxes_put), sl_Boxes_put⟩)
    (l_need_deed : K.lookup f_need_deed = some ⟨oc_need_deed, od_need_deed, .func (PySem.W.fnOf "need_deed" "need_deed" (defArgs s_need_deed) (defBody s_need_deed) (defScope s_need_deed) .none kV_need_deed dc_need_deed pm_need_deed an_need_deed cd_need_deed ct_need_deed), sl_need_deed⟩)
    (l_packed : K.lookup f_packed = some ⟨oc_packed, od_packed, .func (PySem.W.fnOf "packed" "packed" (defArgs s_packed) (defBody s_packed) (defScope s_packed) .none kV_packed dc_packed pm_packed an_packed cd_packed ct_packed), sl_packed⟩)
    (l_parted : K.lookup f_parted = some ⟨oc_parted, od_parted, .func (PySem.W.fnOf "parted" "parted" (defArgs s_parted) (defBody s_parted) (defScope s_parted) .none kV_parted dc_parted pm_parted an_parted cd_parted ct_parted), sl_parted⟩)
    (l_cell_of : K.lookup f_cell_of = some ⟨oc_cell_of, od_cell_of, .func (PySem.W.fnOf "cell_of" "cell_of" (defArgs s_cell_of) (defBody s_cell_of) (defScope s_cell_of) .none kV_cell_of dc_cell_of pm_cell_of an_cell_of cd_cell_of ct_cell_of), sl_cell_of⟩)
    (l_Scan_init : K.lookup f_Scan_init = some ⟨oc_Scan_init, od_Scan_init, .func (PySem.W.fnOf "__init__" "Scan.__init__" (defArgs s_Scan_init) (defBody s_Scan_init) (defScope s_Scan_init) .none kV_Scan_init dc_Scan_init pm_Scan_init an_Scan_init cd_Scan_init ct_Scan_init), sl_Scan_init⟩)
    (l_Scan_step : K.lookup f_Scan_step = some ⟨oc_Scan_step, od_Scan_step, .func (PySem.W.fnOf "step" "Scan.step" (defArgs s_Scan_step) (defBody s_Scan_step) (defScope s_Scan_step) .none kV_Scan_step dc_Scan_step pm_Scan_step an_Scan_step cd_Scan_step ct_Scan_step), sl_Scan_step⟩)
    (l_Scan_looked : K.lookup f_Scan_looked = some ⟨oc_Scan_looked, od_Scan_looked, .func (PySem.W.fnOf "looked" "Scan.looked" (defArgs s_Scan_looked) (defBody s_Scan_looked) (defScope s_Scan_looked) .none kV_Scan_looked dc_Scan_looked pm_Scan_looked an_Scan_looked cd_Scan_looked ct_Scan_looked), sl_Scan_looked⟩)
    (l_Memory_init : K.lookup f_Memory_init = some ⟨oc_Memory_init, od_Memory_init, .func (PySem.W.fnOf "__init__" "Memory.__init__" (defArgs s_Memory_init) (defBody s_Memory_init) (defScope s_Memory_init) .none kV_Memory_init dc_Memory_init pm_Memory_init an_Memory_init cd_Memory_init ct_Memory_init), sl_Memory_init⟩)
    (l_Work_init : K.lookup f_Work_init = some ⟨oc_Work_init, od_Work_init, .func (PySem.W.fnOf "__init__" "Work.__init__" (defArgs s_Work_init) (defBody s_Work_init) (defScope s_Work_init) .none kV_Work_init dc_Work_init pm_Work_init an_Work_init cd_Work_init ct_Work_init), sl_Work_init⟩)
    (l_Work_step : K.lookup f_Work_step = some ⟨oc_Work_step, od_Work_step, .func (PySem.W.fnOf "step" "Work.step" (defArgs s_Work_step) (defBody s_Work_step) (defScope s_Work_step) .none kV_Work_step dc_Work_step pm_Work_step an_Work_step cd_Work_step ct_Work_step), sl_Work_step⟩)
    (l_One_step : K.lookup f_One_step = some ⟨oc_One_step, od_One_step, .func (PySem.W.fnOf "step" "One.step" (defArgs s_One_step) (defBody s_One_step) (defScope s_One_step) .none kV_One_step dc_One_step pm_One_step an_One_step cd_One_step ct_One_step), sl_One_step⟩)
    (l_Count_init : K.lookup f_Count_init = some ⟨oc_Count_init, od_Count_init, .func (PySem.W.fnOf "__init__" "Count.__init__" (defArgs s_Count_init) (defBody s_Count_init) (defScope s_Count_init) .none kV_Count_init dc_Count_init pm_Count_init an_Count_init cd_Count_init ct_Count_init), sl_Count_init⟩)
    (l_Count_step : K.lookup f_Count_step = some ⟨oc_Count_step, od_Count_step, .func (PySem.W.fnOf "step" "Count.step" (defArgs s_Count_step) (defBody s_Count_step) (defScope s_Count_step) .none kV_Count_step dc_Count_step pm_Count_step an_Count_step cd_Count_step ct_Count_step), sl_Count_step⟩)
    (l_Look_init : K.lookup f_Look_init = some ⟨oc_Look_init, od_Look_init, .func (PySem.W.fnOf "__init__" "Look.__init__" (defArgs s_Look_init) (defBody s_Look_init) (defScope s_Look_init) .none kV_Look_init dc_Look_init pm_Look_init an_Look_init cd_Look_init ct_Look_init), sl_Look_init⟩)
    (l_Look_step : K.lookup f_Look_step = some ⟨oc_Look_step, od_Look_step, .func (PySem.W.fnOf "step" "Look.step" (defArgs s_Look_step) (defBody s_Look_step) (defScope s_Look_step) .none kV_Look_step dc_Look_step pm_Look_step an_Look_step cd_Look_step ct_Look_step), sl_Look_step⟩)
    (l_Change_init : K.lookup f_Change_init = some ⟨oc_Change_init, od_Change_init, .func (PySem.W.fnOf "__init__" "Change.__init__" (defArgs s_Change_init) (defBody s_Change_init) (defScope s_Change_init) .none kV_Change_init dc_Change_init pm_Change_init an_Change_init cd_Change_init ct_Change_init), sl_Change_init⟩)
    (l_Change_step : K.lookup f_Change_step = some ⟨oc_Change_step, od_Change_step, .func (PySem.W.fnOf "step" "Change.step" (defArgs s_Change_step) (defBody s_Change_step) (defScope s_Change_step) .none kV_Change_step dc_Change_step pm_Change_step an_Change_step cd_Change_step ct_Change_step), sl_Change_step⟩)
    (l_Give_init : K.lookup f_Give_init = some ⟨oc_Give_init, od_Give_init, .func (PySem.W.fnOf "__init__" "Give.__init__" (defArgs s_Give_init) (defBody s_Give_init) (defScope s_Give_init) .none kV_Give_init dc_Give_init pm_Give_init an_Give_init cd_Give_init ct_Give_init), sl_Give_init⟩)
    (l_Give_step : K.lookup f_Give_step = some ⟨oc_Give_step, od_Give_step, .func (PySem.W.fnOf "step" "Give.step" (defArgs s_Give_step) (defBody s_Give_step) (defScope s_Give_step) .none kV_Give_step dc_Give_step pm_Give_step an_Give_step cd_Give_step ct_Give_step), sl_Give_step⟩)
    (l_Take_init : K.lookup f_Take_init = some ⟨oc_Take_init, od_Take_init, .func (PySem.W.fnOf "__init__" "Take.__init__" (defArgs s_Take_init) (defBody s_Take_init) (defScope s_Take_init) .none kV_Take_init dc_Take_init pm_Take_init an_Take_init cd_Take_init ct_Take_init), sl_Take_init⟩)
    (l_Take_step : K.lookup f_Take_step = some ⟨oc_Take_step, od_Take_step, .func (PySem.W.fnOf "step" "Take.step" (defArgs s_Take_step) (defBody s_Take_step) (defScope s_Take_step) .none kV_Take_step dc_Take_step pm_Take_step an_Take_step cd_Take_step ct_Take_step), sl_Take_step⟩)
    (l_Take_rank : K.lookup f_Take_rank = some ⟨oc_Take_rank, od_Take_rank, .func (PySem.W.fnOf "rank" "Take.rank" (defArgs s_Take_rank) (defBody s_Take_rank) (defScope s_Take_rank) .none kV_Take_rank dc_Take_rank pm_Take_rank an_Take_rank cd_Take_rank ct_Take_rank), sl_Take_rank⟩)
    (l_work_of : K.lookup f_work_of = some ⟨oc_work_of, od_work_of, .func (PySem.W.fnOf "work_of" "work_of" (defArgs s_work_of) (defBody s_work_of) (defScope s_work_of) .none kV_work_of dc_work_of pm_work_of an_work_of cd_work_of ct_work_of), sl_work_of⟩)
    (l_Done_init : K.lookup f_Done_init = some ⟨oc_Done_init, od_Done_init, .func (PySem.W.fnOf "__init__" "Done.__init__" (defArgs s_Done_init) (defBody s_Done_init) (defScope s_Done_init) .none kV_Done_init dc_Done_init pm_Done_init an_Done_init cd_Done_init ct_Done_init), sl_Done_init⟩)
    (l_Hall_init : K.lookup f_Hall_init = some ⟨oc_Hall_init, od_Hall_init, .func (PySem.W.fnOf "__init__" "Hall.__init__" (defArgs s_Hall_init) (defBody s_Hall_init) (defScope s_Hall_init) .none kV_Hall_init dc_Hall_init pm_Hall_init an_Hall_init cd_Hall_init ct_Hall_init), sl_Hall_init⟩)
    (l_Hall_need_hand : K.lookup f_Hall_need_hand = some ⟨oc_Hall_need_hand, od_Hall_need_hand, .func (PySem.W.fnOf "need_hand" "Hall.need_hand" (defArgs s_Hall_need_hand) (defBody s_Hall_need_hand) (defScope s_Hall_need_hand) .none kV_Hall_need_hand dc_Hall_need_hand pm_Hall_need_hand an_Hall_need_hand cd_Hall_need_hand ct_Hall_need_hand), sl_Hall_need_hand⟩)
    (l_Hall_step : K.lookup f_Hall_step = some ⟨oc_Hall_step, od_Hall_step, .func (PySem.W.fnOf "step" "Hall.step" (defArgs s_Hall_step) (defBody s_Hall_step) (defScope s_Hall_step) .none kV_Hall_step dc_Hall_step pm_Hall_step an_Hall_step cd_Hall_step ct_Hall_step), sl_Hall_step⟩)
    (l_Hall_weave : K.lookup f_Hall_weave = some ⟨oc_Hall_weave, od_Hall_weave, .func (PySem.W.fnOf "weave" "Hall.weave" (defArgs s_Hall_weave) (defBody s_Hall_weave) (defScope s_Hall_weave) .none kV_Hall_weave dc_Hall_weave pm_Hall_weave an_Hall_weave cd_Hall_weave ct_Hall_weave), sl_Hall_weave⟩)
    (l_Hall_records : K.lookup f_Hall_records = some ⟨oc_Hall_records, od_Hall_records, .func (PySem.W.fnOf "records" "Hall.records" (defArgs s_Hall_records) (defBody s_Hall_records) (defScope s_Hall_records) .none kV_Hall_records dc_Hall_records pm_Hall_records an_Hall_records cd_Hall_records ct_Hall_records), sl_Hall_records⟩)
    (l__law_cell : K.lookup f__law_cell = some ⟨oc__law_cell, od__law_cell, .func (PySem.W.fnOf "_law_cell" "_law_cell" (defArgs s__law_cell) (defBody s__law_cell) (defScope s__law_cell) .none kV__law_cell dc__law_cell pm__law_cell an__law_cell cd__law_cell ct__law_cell), sl__law_cell⟩)
    (l__law_dice : K.lookup f__law_dice = some ⟨oc__law_dice, od__law_dice, .func (PySem.W.fnOf "_law_dice" "_law_dice" (defArgs s__law_dice) (defBody s__law_dice) (defScope s__law_dice) .none kV__law_dice dc__law_dice pm__law_dice an__law_dice cd__law_dice ct__law_dice), sl__law_dice⟩)
    (l__law_off : K.lookup f__law_off = some ⟨oc__law_off, od__law_off, .func (PySem.W.fnOf "_law_off" "_law_off" (defArgs s__law_off) (defBody s__law_off) (defScope s__law_off) .none kV__law_off dc__law_off pm__law_off an__law_off cd__law_off ct__law_off), sl__law_off⟩)
    (l__law_deed : K.lookup f__law_deed = some ⟨oc__law_deed, od__law_deed, .func (PySem.W.fnOf "_law_deed" "_law_deed" (defArgs s__law_deed) (defBody s__law_deed) (defScope s__law_deed) .none kV__law_deed dc__law_deed pm__law_deed an__law_deed cd__law_deed ct__law_deed), sl__law_deed⟩)
    (l__law_plans : K.lookup f__law_plans = some ⟨oc__law_plans, od__law_plans, .func (PySem.W.fnOf "_law_plans" "_law_plans" (defArgs s__law_plans) (defBody s__law_plans) (defScope s__law_plans) .none kV__law_plans dc__law_plans pm__law_plans an__law_plans cd__law_plans ct__law_plans), sl__law_plans⟩)
    (l__law_weave : K.lookup f__law_weave = some ⟨oc__law_weave, od__law_weave, .func (PySem.W.fnOf "_law_weave" "_law_weave" (defArgs s__law_weave) (defBody s__law_weave) (defScope s__law_weave) .none kV__law_weave dc__law_weave pm__law_weave an__law_weave cd__law_weave ct__law_weave), sl__law_weave⟩)
    (l_law : K.lookup f_law = some ⟨oc_law, od_law, .func (PySem.W.fnOf "law" "law" (defArgs s_law) (defBody s_law) (defScope s_law) .none kV_law dc_law pm_law an_law cd_law ct_law), sl_law⟩)
    (l_k_WITH_NUMBER : K.lookup a_WITH_NUMBER = some ⟨.type "tuple", oc_WITH_NUMBER, .seq #[.str "set" tk_WITH_NUMBER_0, .str "add" tk_WITH_NUMBER_1, .str "raise" tk_WITH_NUMBER_2, .str "give" tk_WITH_NUMBER_3] nn_WITH_NUMBER, sl_WITH_NUMBER⟩)
    (l_k_ALONE : K.lookup a_ALONE = some ⟨.type "tuple", oc_ALONE, .seq #[.str "one" tk_ALONE_0, .str "count" tk_ALONE_1, .str "look" tk_ALONE_2, .str "sum" tk_ALONE_3, .str "top" tk_ALONE_4, .str "take" tk_ALONE_5] nn_ALONE, sl_ALONE⟩)
    (l_k_PLACES : K.lookup a_PLACES = some ⟨.type "dict", none, .dict es_PLACES nn_PLACES, #[]⟩)
    (c_Boxes_init : PySem.W.codeIn K cd_Boxes_init "Boxes.__init__" = true)
    (kk_Boxes_init : PySem.W.keepIn K (.ref f_Boxes_init) = true)
    (c_Boxes_need : PySem.W.codeIn K cd_Boxes_need "Boxes.need" = true)
    (kk_Boxes_need : PySem.W.keepIn K (.ref f_Boxes_need) = true)
    (c_Boxes_take : PySem.W.codeIn K cd_Boxes_take "Boxes.take" = true)
    (kk_Boxes_take : PySem.W.keepIn K (.ref f_Boxes_take) = true)
    (c_Boxes_put : PySem.W.codeIn K cd_Boxes_put "Boxes.put" = true)
    (kk_Boxes_put : PySem.W.keepIn K (.ref f_Boxes_put) = true)
    (c_need_deed : PySem.W.codeIn K cd_need_deed "need_deed" = true)
    (kk_need_deed : PySem.W.keepIn K (.ref f_need_deed) = true)
    (c_packed : PySem.W.codeIn K cd_packed "packed" = true)
    (kk_packed : PySem.W.keepIn K (.ref f_packed) = true)
    (c_parted : PySem.W.codeIn K cd_parted "parted" = true)
    (kk_parted : PySem.W.keepIn K (.ref f_parted) = true)
    (c_cell_of : PySem.W.codeIn K cd_cell_of "cell_of" = true)
    (kk_cell_of : PySem.W.keepIn K (.ref f_cell_of) = true)
    (c_Scan_init : PySem.W.codeIn K cd_Scan_init "Scan.__init__" = true)
    (kk_Scan_init : PySem.W.keepIn K (.ref f_Scan_init) = true)
    (c_Scan_step : PySem.W.codeIn K cd_Scan_step "Scan.step" = true)
    (kk_Scan_step : PySem.W.keepIn K (.ref f_Scan_step) = true)
    (c_Scan_looked : PySem.W.codeIn K cd_Scan_looked "Scan.looked" = true)
    (kk_Scan_looked : PySem.W.keepIn K (.ref f_Scan_looked) = true)
    (c_Memory_init : PySem.W.codeIn K cd_Memory_init "Memory.__init__" = true)
    (kk_Memory_init : PySem.W.keepIn K (.ref f_Memory_init) = true)
    (c_Work_init : PySem.W.codeIn K cd_Work_init "Work.__init__" = true)
    (kk_Work_init : PySem.W.keepIn K (.ref f_Work_init) = true)
    (c_Work_step : PySem.W.codeIn K cd_Work_step "Work.step" = true)
    (kk_Work_step : PySem.W.keepIn K (.ref f_Work_step) = true)
    (c_One_step : PySem.W.codeIn K cd_One_step "One.step" = true)
    (kk_One_step : PySem.W.keepIn K (.ref f_One_step) = true)
    (c_Count_init : PySem.W.codeIn K cd_Count_init "Count.__init__" = true)
    (kk_Count_init : PySem.W.keepIn K (.ref f_Count_init) = true)
    (c_Count_step : PySem.W.codeIn K cd_Count_step "Count.step" = true)
    (kk_Count_step : PySem.W.keepIn K (.ref f_Count_step) = true)
    (c_Look_init : PySem.W.codeIn K cd_Look_init "Look.__init__" = true)
    (kk_Look_init : PySem.W.keepIn K (.ref f_Look_init) = true)
    (c_Look_step : PySem.W.codeIn K cd_Look_step "Look.step" = true)
    (kk_Look_step : PySem.W.keepIn K (.ref f_Look_step) = true)
    (c_Change_init : PySem.W.codeIn K cd_Change_init "Change.__init__" = true)
    (kk_Change_init : PySem.W.keepIn K (.ref f_Change_init) = true)
    (c_Change_step : PySem.W.codeIn K cd_Change_step "Change.step" = true)
    (kk_Change_step : PySem.W.keepIn K (.ref f_Change_step) = true)
    (c_Give_init : PySem.W.codeIn K cd_Give_init "Give.__init__" = true)
    (kk_Give_init : PySem.W.keepIn K (.ref f_Give_init) = true)
    (c_Give_step : PySem.W.codeIn K cd_Give_step "Give.step" = true)
    (kk_Give_step : PySem.W.keepIn K (.ref f_Give_step) = true)
    (c_Take_init : PySem.W.codeIn K cd_Take_init "Take.__init__" = true)
    (kk_Take_init : PySem.W.keepIn K (.ref f_Take_init) = true)
    (c_Take_step : PySem.W.codeIn K cd_Take_step "Take.step" = true)
    (kk_Take_step : PySem.W.keepIn K (.ref f_Take_step) = true)
    (c_Take_rank : PySem.W.codeIn K cd_Take_rank "Take.rank" = true)
    (kk_Take_rank : PySem.W.keepIn K (.ref f_Take_rank) = true)
    (c_work_of : PySem.W.codeIn K cd_work_of "work_of" = true)
    (kk_work_of : PySem.W.keepIn K (.ref f_work_of) = true)
    (c_Done_init : PySem.W.codeIn K cd_Done_init "Done.__init__" = true)
    (kk_Done_init : PySem.W.keepIn K (.ref f_Done_init) = true)
    (c_Hall_init : PySem.W.codeIn K cd_Hall_init "Hall.__init__" = true)
    (kk_Hall_init : PySem.W.keepIn K (.ref f_Hall_init) = true)
    (c_Hall_need_hand : PySem.W.codeIn K cd_Hall_need_hand "Hall.need_hand" = true)
    (kk_Hall_need_hand : PySem.W.keepIn K (.ref f_Hall_need_hand) = true)
    (c_Hall_step : PySem.W.codeIn K cd_Hall_step "Hall.step" = true)
    (kk_Hall_step : PySem.W.keepIn K (.ref f_Hall_step) = true)
    (c_Hall_weave : PySem.W.codeIn K cd_Hall_weave "Hall.weave" = true)
    (kk_Hall_weave : PySem.W.keepIn K (.ref f_Hall_weave) = true)
    (c_Hall_records : PySem.W.codeIn K cd_Hall_records "Hall.records" = true)
    (kk_Hall_records : PySem.W.keepIn K (.ref f_Hall_records) = true)
    (c__law_cell : PySem.W.codeIn K cd__law_cell "_law_cell" = true)
    (kk__law_cell : PySem.W.keepIn K (.ref f__law_cell) = true)
    (c__law_dice : PySem.W.codeIn K cd__law_dice "_law_dice" = true)
    (kk__law_dice : PySem.W.keepIn K (.ref f__law_dice) = true)
    (c__law_off : PySem.W.codeIn K cd__law_off "_law_off" = true)
    (kk__law_off : PySem.W.keepIn K (.ref f__law_off) = true)
    (c__law_deed : PySem.W.codeIn K cd__law_deed "_law_deed" = true)
    (kk__law_deed : PySem.W.keepIn K (.ref f__law_deed) = true)
    (c__law_plans : PySem.W.codeIn K cd__law_plans "_law_plans" = true)
    (kk__law_plans : PySem.W.keepIn K (.ref f__law_plans) = true)
    (c__law_weave : PySem.W.codeIn K cd__law_weave "_law_weave" = true)
    (kk__law_weave : PySem.W.keepIn K (.ref f__law_weave) = true)
    (c_law : PySem.W.codeIn K cd_law "law" = true)
    (kk_law : PySem.W.keepIn K (.ref f_law) = true)
    (pg_Boxes : PySem.W.plainGet K C_Boxes Str.empty = true)
    (hd_Boxes : PySem.W.hasDictIn K C_Boxes = true)
    (po_Boxes : PySem.W.plainOver K C_Boxes = true)
    (sa_Boxes : PySem.W.findIn K (.ref C_Boxes) "__setattr__" = some (some (.builtin "object.__setattr__")))
    (kc_Boxes : PySem.W.keepIn K (.ref C_Boxes) = true)
    (no_Boxes_0 : PySem.W.findIn K (.ref C_Boxes) "many" = some none)
    (no_Boxes_1 : PySem.W.findIn K (.ref C_Boxes) "numbers" = some none)
    (no_Boxes_2 : PySem.W.findIn K (.ref C_Boxes) "log" = some none)
    (mk_Boxes : PySem.W.makesIn K C_Boxes = true)
    (if_Boxes : PySem.W.isFn K (.ref f_Boxes_init) = true)
    (mf_Boxes_need : PySem.W.isFn K (.ref f_Boxes_need) = true)
    (mf_Boxes_take : PySem.W.isFn K (.ref f_Boxes_take) = true)
    (mf_Boxes_put : PySem.W.isFn K (.ref f_Boxes_put) = true)
    (pg_Scan : PySem.W.plainGet K C_Scan Str.empty = true)
    (hd_Scan : PySem.W.hasDictIn K C_Scan = true)
    (po_Scan : PySem.W.plainOver K C_Scan = true)
    (sa_Scan : PySem.W.findIn K (.ref C_Scan) "__setattr__" = some (some (.builtin "object.__setattr__")))
    (kc_Scan : PySem.W.keepIn K (.ref C_Scan) = true)
    (no_Scan_0 : PySem.W.findIn K (.ref C_Scan) "first" = some none)
    (no_Scan_1 : PySem.W.findIn K (.ref C_Scan) "many" = some none)
    (no_Scan_2 : PySem.W.findIn K (.ref C_Scan) "ahead" = some none)
    (no_Scan_3 : PySem.W.findIn K (.ref C_Scan) "row" = some none)
    (no_Scan_4 : PySem.W.findIn K (.ref C_Scan) "moved" = some none)
    (no_Scan_5 : PySem.W.findIn K (.ref C_Scan) "until" = some none)
    (no_Scan_6 : PySem.W.findIn K (.ref C_Scan) "view" = some none)
    (no_Scan_7 : PySem.W.findIn K (.ref C_Scan) "moment" = some none)
    (mk_Scan : PySem.W.makesIn K C_Scan = true)
    (if_Scan : PySem.W.isFn K (.ref f_Scan_init) = true)
    (mf_Scan_step : PySem.W.isFn K (.ref f_Scan_step) = true)
    (mf_Scan_looked : PySem.W.isFn K (.ref f_Scan_looked) = true)
    (pg_Memory : PySem.W.plainGet K C_Memory Str.empty = true)
    (hd_Memory : PySem.W.hasDictIn K C_Memory = true)
    (po_Memory : PySem.W.plainOver K C_Memory = true)
    (sa_Memory : PySem.W.findIn K (.ref C_Memory) "__setattr__" = some (some (.builtin "object.__setattr__")))
    (kc_Memory : PySem.W.keepIn K (.ref C_Memory) = true)
    (no_Memory_0 : PySem.W.findIn K (.ref C_Memory) "ones" = some none)
    (no_Memory_1 : PySem.W.findIn K (.ref C_Memory) "puts" = some none)
    (no_Memory_2 : PySem.W.findIn K (.ref C_Memory) "cells" = some none)
    (no_Memory_3 : PySem.W.findIn K (.ref C_Memory) "gifts" = some none)
    (no_Memory_4 : PySem.W.findIn K (.ref C_Memory) "took" = some none)
    (mk_Memory : PySem.W.makesIn K C_Memory = true)
    (if_Memory : PySem.W.isFn K (.ref f_Memory_init) = true)
    (pg_Work : PySem.W.plainGet K C_Work Str.empty = true)
    (hd_Work : PySem.W.hasDictIn K C_Work = true)
    (po_Work : PySem.W.plainOver K C_Work = true)
    (sa_Work : PySem.W.findIn K (.ref C_Work) "__setattr__" = some (some (.builtin "object.__setattr__")))
    (kc_Work : PySem.W.keepIn K (.ref C_Work) = true)
    (no_Work_0 : PySem.W.findIn K (.ref C_Work) "deed" = some none)
    (no_Work_1 : PySem.W.findIn K (.ref C_Work) "hand" = some none)
    (no_Work_2 : PySem.W.findIn K (.ref C_Work) "memory" = some none)
    (no_Work_3 : PySem.W.findIn K (.ref C_Work) "first" = some none)
    (no_Work_4 : PySem.W.findIn K (.ref C_Work) "many" = some none)
    (no_Work_5 : PySem.W.findIn K (.ref C_Work) "answer" = some none)
    (no_Work_6 : PySem.W.findIn K (.ref C_Work) "moment" = some none)
    (no_Work_7 : PySem.W.findIn K (.ref C_Work) "stamp" = some none)
    (no_Work_8 : PySem.W.findIn K (.ref C_Work) "giver" = some none)
    (no_Work_9 : PySem.W.findIn K (.ref C_Work) "nth" = some none)
    (mk_Work : PySem.W.makesIn K C_Work = true)
    (if_Work : PySem.W.isFn K (.ref f_Work_init) = true)
    (mf_Work_step : PySem.W.isFn K (.ref f_Work_step) = true)
    (pg_One : PySem.W.plainGet K C_One Str.empty = true)
    (hd_One : PySem.W.hasDictIn K C_One = true)
    (po_One : PySem.W.plainOver K C_One = true)
    (sa_One : PySem.W.findIn K (.ref C_One) "__setattr__" = some (some (.builtin "object.__setattr__")))
    (kc_One : PySem.W.keepIn K (.ref C_One) = true)
    (no_One_0 : PySem.W.findIn K (.ref C_One) "deed" = some none)
    (no_One_1 : PySem.W.findIn K (.ref C_One) "hand" = some none)
    (no_One_2 : PySem.W.findIn K (.ref C_One) "memory" = some none)
    (no_One_3 : PySem.W.findIn K (.ref C_One) "first" = some none)
    (no_One_4 : PySem.W.findIn K (.ref C_One) "many" = some none)
    (no_One_5 : PySem.W.findIn K (.ref C_One) "answer" = some none)
    (no_One_6 : PySem.W.findIn K (.ref C_One) "moment" = some none)
    (no_One_7 : PySem.W.findIn K (.ref C_One) "stamp" = some none)
    (no_One_8 : PySem.W.findIn K (.ref C_One) "giver" = some none)
    (no_One_9 : PySem.W.findIn K (.ref C_One) "nth" = some none)
    (mk_One : PySem.W.makesIn K C_One = true)
    (if_One : PySem.W.isFn K (.ref f_Work_init) = true)
    (mf_One_step : PySem.W.isFn K (.ref f_One_step) = true)
    (pg_Count : PySem.W.plainGet K C_Count Str.empty = true)
    (hd_Count : PySem.W.hasDictIn K C_Count = true)
    (po_Count : PySem.W.plainOver K C_Count = true)
    (sa_Count : PySem.W.findIn K (.ref C_Count) "__setattr__" = some (some (.builtin "object.__setattr__")))
    (kc_Count : PySem.W.keepIn K (.ref C_Count) = true)
    (no_Count_0 : PySem.W.findIn K (.ref C_Count) "deed" = some none)
    (no_Count_1 : PySem.W.findIn K (.ref C_Count) "hand" = some none)
    (no_Count_2 : PySem.W.findIn K (.ref C_Count) "memory" = some none)
    (no_Count_3 : PySem.W.findIn K (.ref C_Count) "first" = some none)
    (no_Count_4 : PySem.W.findIn K (.ref C_Count) "many" = some none)
    (no_Count_5 : PySem.W.findIn K (.ref C_Count) "answer" = some none)
    (no_Count_6 : PySem.W.findIn K (.ref C_Count) "moment" = some none)
    (no_Count_7 : PySem.W.findIn K (.ref C_Count) "stamp" = some none)
    (no_Count_8 : PySem.W.findIn K (.ref C_Count) "giver" = some none)
    (no_Count_9 : PySem.W.findIn K (.ref C_Count) "nth" = some none)
    (no_Count_10 : PySem.W.findIn K (.ref C_Count) "row" = some none)
    (mk_Count : PySem.W.makesIn K C_Count = true)
    (if_Count : PySem.W.isFn K (.ref f_Count_init) = true)
    (mf_Count_step : PySem.W.isFn K (.ref f_Count_step) = true)
    (pg_Look : PySem.W.plainGet K C_Look Str.empty = true)
    (hd_Look : PySem.W.hasDictIn K C_Look = true)
    (po_Look : PySem.W.plainOver K C_Look = true)
    (sa_Look : PySem.W.findIn K (.ref C_Look) "__setattr__" = some (some (.builtin "object.__setattr__")))
    (kc_Look : PySem.W.keepIn K (.ref C_Look) = true)
    (no_Look_0 : PySem.W.findIn K (.ref C_Look) "deed" = some none)
    (no_Look_1 : PySem.W.findIn K (.ref C_Look) "hand" = some none)
    (no_Look_2 : PySem.W.findIn K (.ref C_Look) "memory" = some none)
    (no_Look_3 : PySem.W.findIn K (.ref C_Look) "first" = some none)
    (no_Look_4 : PySem.W.findIn K (.ref C_Look) "many" = some none)
    (no_Look_5 : PySem.W.findIn K (.ref C_Look) "answer" = some none)
    (no_Look_6 : PySem.W.findIn K (.ref C_Look) "moment" = some none)
    (no_Look_7 : PySem.W.findIn K (.ref C_Look) "stamp" = some none)
    (no_Look_8 : PySem.W.findIn K (.ref C_Look) "giver" = some none)
    (no_Look_9 : PySem.W.findIn K (.ref C_Look) "nth" = some none)
    (no_Look_10 : PySem.W.findIn K (.ref C_Look) "scan" = some none)
    (mk_Look : PySem.W.makesIn K C_Look = true)
    (if_Look : PySem.W.isFn K (.ref f_Look_init) = true)
    (mf_Look_step : PySem.W.isFn K (.ref f_Look_step) = true)
    (pg_Change : PySem.W.plainGet K C_Change Str.empty = true)
    (hd_Change : PySem.W.hasDictIn K C_Change = true)
    (po_Change : PySem.W.plainOver K C_Change = true)
    (sa_Change : PySem.W.findIn K (.ref C_Change) "__setattr__" = some (some (.builtin "object.__setattr__")))
    (kc_Change : PySem.W.keepIn K (.ref C_Change) = true)
    (no_Change_0 : PySem.W.findIn K (.ref C_Change) "deed" = some none)
    (no_Change_1 : PySem.W.findIn K (.ref C_Change) "hand" = some none)
    (no_Change_2 : PySem.W.findIn K (.ref C_Change) "memory" = some none)
    (no_Change_3 : PySem.W.findIn K (.ref C_Change) "first" = some none)
    (no_Change_4 : PySem.W.findIn K (.ref C_Change) "many" = some none)
    (no_Change_5 : PySem.W.findIn K (.ref C_Change) "answer" = some none)
    (no_Change_6 : PySem.W.findIn K (.ref C_Change) "moment" = some none)
    (no_Change_7 : PySem.W.findIn K (.ref C_Change) "stamp" = some none)
    (no_Change_8 : PySem.W.findIn K (.ref C_Change) "giver" = some none)
    (no_Change_9 : PySem.W.findIn K (.ref C_Change) "nth" = some none)
    (no_Change_10 : PySem.W.findIn K (.ref C_Change) "scan" = some none)
    (mk_Change : PySem.W.makesIn K C_Change = true)
    (if_Change : PySem.W.isFn K (.ref f_Change_init) = true)
    (mf_Change_step : PySem.W.isFn K (.ref f_Change_step) = true)
    (pg_Give : PySem.W.plainGet K C_Give Str.empty = true)
    (hd_Give : PySem.W.hasDictIn K C_Give = true)
    (po_Give : PySem.W.plainOver K C_Give = true)
    (sa_Give : PySem.W.findIn K (.ref C_Give) "__setattr__" = some (some (.builtin "object.__setattr__")))
    (kc_Give : PySem.W.keepIn K (.ref C_Give) = true)
    (no_Give_0 : PySem.W.findIn K (.ref C_Give) "deed" = some none)
    (no_Give_1 : PySem.W.findIn K (.ref C_Give) "hand" = some none)
    (no_Give_2 : PySem.W.findIn K (.ref C_Give) "memory" = some none)
    (no_Give_3 : PySem.W.findIn K (.ref C_Give) "first" = some none)
    (no_Give_4 : PySem.W.findIn K (.ref C_Give) "many" = some none)
    (no_Give_5 : PySem.W.findIn K (.ref C_Give) "answer" = some none)
    (no_Give_6 : PySem.W.findIn K (.ref C_Give) "moment" = some none)
    (no_Give_7 : PySem.W.findIn K (.ref C_Give) "stamp" = some none)
    (no_Give_8 : PySem.W.findIn K (.ref C_Give) "giver" = some none)
    (no_Give_9 : PySem.W.findIn K (.ref C_Give) "nth" = some none)
    (no_Give_10 : PySem.W.findIn K (.ref C_Give) "read" = some none)
    (mk_Give : PySem.W.makesIn K C_Give = true)
    (if_Give : PySem.W.isFn K (.ref f_Give_init) = true)
    (mf_Give_step : PySem.W.isFn K (.ref f_Give_step) = true)
    (pg_Take : PySem.W.plainGet K C_Take Str.empty = true)
    (hd_Take : PySem.W.hasDictIn K C_Take = true)
    (po_Take : PySem.W.plainOver K C_Take = true)
    (sa_Take : PySem.W.findIn K (.ref C_Take) "__setattr__" = some (some (.builtin "object.__setattr__")))
    (kc_Take : PySem.W.keepIn K (.ref C_Take) = true)
    (no_Take_0 : PySem.W.findIn K (.ref C_Take) "deed" = some none)
    (no_Take_1 : PySem.W.findIn K (.ref C_Take) "hand" = some none)
    (no_Take_2 : PySem.W.findIn K (.ref C_Take) "memory" = some none)
    (no_Take_3 : PySem.W.findIn K (.ref C_Take) "first" = some none)
    (no_Take_4 : PySem.W.findIn K (.ref C_Take) "many" = some none)
    (no_Take_5 : PySem.W.findIn K (.ref C_Take) "answer" = some none)
    (no_Take_6 : PySem.W.findIn K (.ref C_Take) "moment" = some none)
    (no_Take_7 : PySem.W.findIn K (.ref C_Take) "stamp" = some none)
    (no_Take_8 : PySem.W.findIn K (.ref C_Take) "giver" = some none)
    (no_Take_9 : PySem.W.findIn K (.ref C_Take) "nth" = some none)
    (no_Take_10 : PySem.W.findIn K (.ref C_Take) "rows" = some none)
    (no_Take_11 : PySem.W.findIn K (.ref C_Take) "again" = some none)
    (mk_Take : PySem.W.makesIn K C_Take = true)
    (if_Take : PySem.W.isFn K (.ref f_Take_init) = true)
    (mf_Take_step : PySem.W.isFn K (.ref f_Take_step) = true)
    (mf_Take_rank : PySem.W.isFn K (.ref f_Take_rank) = true)
    (pg_Done : PySem.W.plainGet K C_Done Str.empty = true)
    (hd_Done : PySem.W.hasDictIn K C_Done = true)
    (po_Done : PySem.W.plainOver K C_Done = true)
    (sa_Done : PySem.W.findIn K (.ref C_Done) "__setattr__" = some (some (.builtin "object.__setattr__")))
    (kc_Done : PySem.W.keepIn K (.ref C_Done) = true)
    (no_Done_0 : PySem.W.findIn K (.ref C_Done) "work" = some none)
    (no_Done_1 : PySem.W.findIn K (.ref C_Done) "begin" = some none)
    (no_Done_2 : PySem.W.findIn K (.ref C_Done) "end" = some none)
    (mk_Done : PySem.W.makesIn K C_Done = true)
    (if_Done : PySem.W.isFn K (.ref f_Done_init) = true)
    (pg_Hall : PySem.W.plainGet K C_Hall Str.empty = true)
    (hd_Hall : PySem.W.hasDictIn K C_Hall = true)
    (po_Hall : PySem.W.plainOver K C_Hall = true)
    (sa_Hall : PySem.W.findIn K (.ref C_Hall) "__setattr__" = some (some (.builtin "object.__setattr__")))
    (kc_Hall : PySem.W.keepIn K (.ref C_Hall) = true)
    (no_Hall_0 : PySem.W.findIn K (.ref C_Hall) "many" = some none)
    (no_Hall_1 : PySem.W.findIn K (.ref C_Hall) "plans" = some none)
    (no_Hall_2 : PySem.W.findIn K (.ref C_Hall) "boxes" = some none)
    (no_Hall_3 : PySem.W.findIn K (.ref C_Hall) "memories" = some none)
    (no_Hall_4 : PySem.W.findIn K (.ref C_Hall) "underway" = some none)
    (no_Hall_5 : PySem.W.findIn K (.ref C_Hall) "begins" = some none)
    (no_Hall_6 : PySem.W.findIn K (.ref C_Hall) "own" = some none)
    (no_Hall_7 : PySem.W.findIn K (.ref C_Hall) "hands" = some none)
    (no_Hall_8 : PySem.W.findIn K (.ref C_Hall) "lent" = some none)
    (no_Hall_9 : PySem.W.findIn K (.ref C_Hall) "ended" = some none)
    (mk_Hall : PySem.W.makesIn K C_Hall = true)
    (if_Hall : PySem.W.isFn K (.ref f_Hall_init) = true)
    (mf_Hall_need_hand : PySem.W.isFn K (.ref f_Hall_need_hand) = true)
    (mf_Hall_step : PySem.W.isFn K (.ref f_Hall_step) = true)
    (mf_Hall_weave : PySem.W.isFn K (.ref f_Hall_weave) = true)
    (mf_Hall_records : PySem.W.isFn K (.ref f_Hall_records) = true)
    (bg_rank : PySem.W.specialIn K (.ref f_Take_rank) "__get__" = some (some (.builtin "function.__get__")))
    (bt_rank : PySem.W.takesIn K (.ref f_Take_rank) = some false)
    (bf_rank : PySem.W.fnIn K f_Take_rank = true)
    (rd_Work : PySem.W.readsIn K C_Work (.type "type") = true)
    (sg_Work : PySem.W.specialIn K (.ref C_Work) "__getattribute__" = some (some (.builtin "type.__getattribute__")))
    (fc_Work_Work_init : PySem.W.findCls K (.ref C_Work) (.type "type") "__init__" = some (.val (.ref f_Work_init)))
    (k_HandsError : PySem.W.keepIn K (.ref e_HandsError) = true)
    (x_HandsError : PySem.W.excIn K e_HandsError [.type "ValueError", .type "Exception", .type "BaseException", .type "object"] "ValueError.__new__" = true)
    (xb_HandsError : PySem.W.subIn K (.ref e_HandsError) (.type "BaseException") = some true)
    (xt_HandsError : PySem.W.typeIn K (.ref e_HandsError) = some (.type "type"))
    (k_NoNumber : PySem.W.keepIn K (.ref e_NoNumber) = true)
    (x_NoNumber : PySem.W.excIn K e_NoNumber [.type "ValueError", .type "Exception", .type "BaseException", .type "object"] "ValueError.__new__" = true)
    (xb_NoNumber : PySem.W.subIn K (.ref e_NoNumber) (.type "BaseException") = some true)
    (xt_NoNumber : PySem.W.typeIn K (.ref e_NoNumber) = some (.type "type"))
    (k_NoBox : PySem.W.keepIn K (.ref e_NoBox) = true)
    (x_NoBox : PySem.W.excIn K e_NoBox [.type "ValueError", .type "Exception", .type "BaseException", .type "object"] "ValueError.__new__" = true)
    (xb_NoBox : PySem.W.subIn K (.ref e_NoBox) (.type "BaseException") = some true)
    (xt_NoBox : PySem.W.typeIn K (.ref e_NoBox) = some (.type "type"))
    (k_NoHand : PySem.W.keepIn K (.ref e_NoHand) = true)
    (x_NoHand : PySem.W.excIn K e_NoHand [.type "ValueError", .type "Exception", .type "BaseException", .type "object"] "ValueError.__new__" = true)
    (xb_NoHand : PySem.W.subIn K (.ref e_NoHand) (.type "BaseException") = some true)
    (xt_NoHand : PySem.W.typeIn K (.ref e_NoHand) = some (.type "type"))
    (k_NoDeed : PySem.W.keepIn K (.ref e_NoDeed) = true)
    (x_NoDeed : PySem.W.excIn K e_NoDeed [.type "ValueError", .type "Exception", .type "BaseException", .type "object"] "ValueError.__new__" = true)
    (xb_NoDeed : PySem.W.subIn K (.ref e_NoDeed) (.type "BaseException") = some true)
    (xt_NoDeed : PySem.W.typeIn K (.ref e_NoDeed) = some (.type "type"))
    (kl_PLACES : PySem.W.KeysLit w.params es_PLACES.toList)
    (kd_PLACES_one : PySem.W.nsIn K a_PLACES "one" = some (some (.int 0 tk_PLACES_0)))
    (kd_PLACES_count : PySem.W.nsIn K a_PLACES "count" = some (some (.int 0 tk_PLACES_1)))
    (kd_PLACES_set : PySem.W.nsIn K a_PLACES "set" = some (some (.int 1 tk_PLACES_2)))
    (kd_PLACES_look : PySem.W.nsIn K a_PLACES "look" = some (some (.int 1 tk_PLACES_3)))
    (kd_PLACES_add : PySem.W.nsIn K a_PLACES "add" = some (some (.int 2 tk_PLACES_4)))
    (kd_PLACES_sum : PySem.W.nsIn K a_PLACES "sum" = some (some (.int 2 tk_PLACES_5)))
    (kd_PLACES_raise : PySem.W.nsIn K a_PLACES "raise" = some (some (.int 3 tk_PLACES_6)))
    (kd_PLACES_top : PySem.W.nsIn K a_PLACES "top" = some (some (.int 3 tk_PLACES_7)))
    (kd_PLACES_give : PySem.W.nsIn K a_PLACES "give" = some (some (.int 4 tk_PLACES_8)))
    (kd_PLACES_take : PySem.W.nsIn K a_PLACES "take" = some (some (.int 4 tk_PLACES_9)))
    (z_len : PySem.W.nsIn K mainGlobals "len" = some none)
    (z_abs : PySem.W.nsIn K mainGlobals "abs" = some none)
    (z_sum : PySem.W.nsIn K mainGlobals "sum" = some none)
    (z_max : PySem.W.nsIn K mainGlobals "max" = some none)
    (z_min : PySem.W.nsIn K mainGlobals "min" = some none)
    (z_int : PySem.W.nsIn K mainGlobals "int" = some none)
    (z_isinstance : PySem.W.nsIn K mainGlobals "isinstance" = some none)
    (z_list : PySem.W.nsIn K mainGlobals "list" = some none)
    (z_tuple : PySem.W.nsIn K mainGlobals "tuple" = some none)
    (z_range : PySem.W.nsIn K mainGlobals "range" = some none)
    (z_reversed : PySem.W.nsIn K mainGlobals "reversed" = some none)
    (z_enumerate : PySem.W.nsIn K mainGlobals "enumerate" = some none)
    (z_bool : PySem.W.nsIn K mainGlobals "bool" = some none)
    (z_ValueError : PySem.W.nsIn K mainGlobals "ValueError" = some none)
    : ∃ fd : FuncData, (∀ (s : Shared) (v : Value), BindsTo s fd ⟨[v], []⟩ [("_law_script", v)]) ∧ ∀ base : Heap, K.In base → base.Ns mainGlobals mg → FnOk l.prog w K mg base CX0 8 fa fd ["_law_script"] (spS (S_law K)) := by
  have e : f_law = fa := Value.ref.inj (Option.some.inj ((PySem.W.mg_of X G n_f_law).symm.trans hfa))
  subst e
  let E : Env K mg := {
    i_Boxes := ⟨C_Boxes, ⟨pg_Boxes, hd_Boxes, po_Boxes, sa_Boxes⟩, noCons no_Boxes_0 (noCons no_Boxes_1 (noCons no_Boxes_2 (fun _ m => nomatch m))), by decide +kernel, by decide⟩,
    i_Scan := ⟨C_Scan, ⟨pg_Scan, hd_Scan, po_Scan, sa_Scan⟩, noCons no_Scan_0 (noCons no_Scan_1 (noCons no_Scan_2 (noCons no_Scan_3 (noCons no_Scan_4 (noCons no_Scan_5 (noCons no_Scan_6 (noCons no_Scan_7 (fun _ m => nomatch m)))))))), by decide +kernel, by decide⟩,
    i_Memory := ⟨C_Memory, ⟨pg_Memory, hd_Memory, po_Memory, sa_Memory⟩, noCons no_Memory_0 (noCons no_Memory_1 (noCons no_Memory_2 (noCons no_Memory_3 (noCons no_Memory_4 (fun _ m => nomatch m))))), by decide +kernel, by decide⟩,
    i_Work := ⟨C_Work, ⟨pg_Work, hd_Work, po_Work, sa_Work⟩, noCons no_Work_0 (noCons no_Work_1 (noCons no_Work_2 (noCons no_Work_3 (noCons no_Work_4 (noCons no_Work_5 (noCons no_Work_6 (noCons no_Work_7 (noCons no_Work_8 (noCons no_Work_9 (fun _ m => nomatch m)))))))))), by decide +kernel, by decide⟩,
    i_One := ⟨C_One, ⟨pg_One, hd_One, po_One, sa_One⟩, noCons no_One_0 (noCons no_One_1 (noCons no_One_2 (noCons no_One_3 (noCons no_One_4 (noCons no_One_5 (noCons no_One_6 (noCons no_One_7 (noCons no_One_8 (noCons no_One_9 (fun _ m => nomatch m)))))))))), by decide +kernel, by decide⟩,
    i_Count := ⟨C_Count, ⟨pg_Count, hd_Count, po_Count, sa_Count⟩, noCons no_Count_0 (noCons no_Count_1 (noCons no_Count_2 (noCons no_Count_3 (noCons no_Count_4 (noCons no_Count_5 (noCons no_Count_6 (noCons no_Count_7 (noCons no_Count_8 (noCons no_Count_9 (noCons no_Count_10 (fun _ m => nomatch m))))))))))), by decide +kernel, by decide⟩,
    i_Look := ⟨C_Look, ⟨pg_Look, hd_Look, po_Look, sa_Look⟩, noCons no_Look_0 (noCons no_Look_1 (noCons no_Look_2 (noCons no_Look_3 (noCons no_Look_4 (noCons no_Look_5 (noCons no_Look_6 (noCons no_Look_7 (noCons no_Look_8 (noCons no_Look_9 (noCons no_Look_10 (fun _ m => nomatch m))))))))))), by decide +kernel, by decide⟩,
    i_Change := ⟨C_Change, ⟨pg_Change, hd_Change, po_Change, sa_Change⟩, noCons no_Change_0 (noCons no_Change_1 (noCons no_Change_2 (noCons no_Change_3 (noCons no_Change_4 (noCons no_Change_5 (noCons no_Change_6 (noCons no_Change_7 (noCons no_Change_8 (noCons no_Change_9 (noCons no_Change_10 (fun _ m => nomatch m))))))))))), by decide +kernel, by decide⟩,
    i_Give := ⟨C_Give, ⟨pg_Give, hd_Give, po_Give, sa_Give⟩, noCons no_Give_0 (noCons no_Give_1 (noCons no_Give_2 (noCons no_Give_3 (noCons no_Give_4 (noCons no_Give_5 (noCons no_Give_6 (noCons no_Give_7 (noCons no_Give_8 (noCons no_Give_9 (noCons no_Give_10 (fun _ m => nomatch m))))))))))), by decide +kernel, by decide⟩,
    i_Take := ⟨C_Take, ⟨pg_Take, hd_Take, po_Take, sa_Take⟩, noCons no_Take_0 (noCons no_Take_1 (noCons no_Take_2 (noCons no_Take_3 (noCons no_Take_4 (noCons no_Take_5 (noCons no_Take_6 (noCons no_Take_7 (noCons no_Take_8 (noCons no_Take_9 (noCons no_Take_10 (noCons no_Take_11 (fun _ m => nomatch m)))))))))))), by decide +kernel, by decide⟩,
    i_Done := ⟨C_Done, ⟨pg_Done, hd_Done, po_Done, sa_Done⟩, noCons no_Done_0 (noCons no_Done_1 (noCons no_Done_2 (fun _ m => nomatch m))), by decide +kernel, by decide⟩,
    i_Hall := ⟨C_Hall, ⟨pg_Hall, hd_Hall, po_Hall, sa_Hall⟩, noCons no_Hall_0 (noCons no_Hall_1 (noCons no_Hall_2 (noCons no_Hall_3 (noCons no_Hall_4 (noCons no_Hall_5 (noCons no_Hall_6 (noCons no_Hall_7 (noCons no_Hall_8 (noCons no_Hall_9 (fun _ m => nomatch m)))))))))), by decide +kernel, by decide⟩,
    f_Boxes_init := f_Boxes_init,
    fd_Boxes_init := (PySem.W.fnOf "__init__" "Boxes.__init__" (defArgs s_Boxes_init) (defBody s_Boxes_init) (defScope s_Boxes_init) .none kV_Boxes_init dc_Boxes_init pm_Boxes_init an_Boxes_init cd_Boxes_init ct_Boxes_init),
    F_Boxes_init := (fun_mk (st := s_Boxes_init) l_Boxes_init c_Boxes_init kk_Boxes_init),
    b_Boxes_init := ((fun_mk (st := s_Boxes_init) l_Boxes_init c_Boxes_init kk_Boxes_init).binds (ps := ["self", "many"]) fun _ _ _ _ _ _ => by refine allN ?_; exact fun _ _ => rfl),
    f_Boxes_need := f_Boxes_need,
    fd_Boxes_need := (PySem.W.fnOf "need" "Boxes.need" (defArgs s_Boxes_need) (defBody s_Boxes_need) (defScope s_Boxes_need) .none kV_Boxes_need dc_Boxes_need pm_Boxes_need an_Boxes_need cd_Boxes_need ct_Boxes_need),
    F_Boxes_need := (fun_mk (st := s_Boxes_need) l_Boxes_need c_Boxes_need kk_Boxes_need),
    b_Boxes_need := ((fun_mk (st := s_Boxes_need) l_Boxes_need c_Boxes_need kk_Boxes_need).binds (ps := ["self", "place"]) fun _ _ _ _ _ _ => by refine allN ?_; exact fun _ _ => rfl),
    f_Boxes_take := f_Boxes_take,
    fd_Boxes_take := (PySem.W.fnOf "take" "Boxes.take" (defArgs s_Boxes_take) (defBody s_Boxes_take) (defScope s_Boxes_take) .none kV_Boxes_take dc_Boxes_take pm_Boxes_take an_Boxes_take cd_Boxes_take ct_Boxes_take),
    F_Boxes_take := (fun_mk (st := s_Boxes_take) l_Boxes_take c_Boxes_take kk_Boxes_take),
    b_Boxes_take := ((fun_mk (st := s_Boxes_take) l_Boxes_take c_Boxes_take kk_Boxes_take).binds (ps := ["self", "place"]) fun _ _ _ _ _ _ => by refine allN ?_; exact fun _ _ => rfl),
    f_Boxes_put := f_Boxes_put,
    fd_Boxes_put := (PySem.W.fnOf "put" "Boxes.put" (defArgs s_Boxes_put) (defBody s_Boxes_put) (defScope s_Boxes_put) .none kV_Boxes_put dc_Boxes_put pm_Boxes_put an_Boxes_put cd_Boxes_put ct_Boxes_put),
    F_Boxes_put := (fun_mk (st := s_Boxes_put) l_Boxes_put c_Boxes_put kk_Boxes_put),
    b_Boxes_put := ((fun_mk (st := s_Boxes_put) l_Boxes_put c_Boxes_put kk_Boxes_put).binds (ps := ["self", "place", "number"]) fun _ _ _ _ _ _ => by refine allN ?_; exact fun _ _ _ => rfl),
    f_need_deed := f_need_deed,
    fd_need_deed := (PySem.W.fnOf "need_deed" "need_deed" (defArgs s_need_deed) (defBody s_need_deed) (defScope s_need_deed) .none kV_need_deed dc_need_deed pm_need_deed an_need_deed cd_need_deed ct_need_deed),
    F_need_deed := (fun_mk (st := s_need_deed) l_need_deed c_need_deed kk_need_deed),
    b_need_deed := ((fun_mk (st := s_need_deed) l_need_deed c_need_deed kk_need_deed).binds (ps := ["deed", "hand"]) fun _ _ _ _ _ _ => by refine allN ?_; exact fun _ _ => rfl),
    g_need_deed := (PySem.W.mg_of X G n_f_need_deed),
    k_need_deed := kk_need_deed,
    f_packed := f_packed,
    fd_packed := (PySem.W.fnOf "packed" "packed" (defArgs s_packed) (defBody s_packed) (defScope s_packed) .none kV_packed dc_packed pm_packed an_packed cd_packed ct_packed),
    F_packed := (fun_mk (st := s_packed) l_packed c_packed kk_packed),
    b_packed := ((fun_mk (st := s_packed) l_packed c_packed kk_packed).binds (ps := ["row"]) fun _ _ _ _ _ _ => by refine allN ?_; exact fun _ => rfl),
    g_packed := (PySem.W.mg_of X G n_f_packed),
    k_packed := kk_packed,
    f_parted := f_parted,
    fd_parted := (PySem.W.fnOf "parted" "parted" (defArgs s_parted) (defBody s_parted) (defScope s_parted) .none kV_parted dc_parted pm_parted an_parted cd_parted ct_parted),
    F_parted := (fun_mk (st := s_parted) l_parted c_parted kk_parted),
    b_parted := ((fun_mk (st := s_parted) l_parted c_parted kk_parted).binds (ps := ["number"]) fun _ _ _ _ _ _ => by refine allN ?_; exact fun _ => rfl),
    g_parted := (PySem.W.mg_of X G n_f_parted),
    k_parted := kk_parted,
    f_cell_of := f_cell_of,
    fd_cell_of := (PySem.W.fnOf "cell_of" "cell_of" (defArgs s_cell_of) (defBody s_cell_of) (defScope s_cell_of) .none kV_cell_of dc_cell_of pm_cell_of an_cell_of cd_cell_of ct_cell_of),
    F_cell_of := (fun_mk (st := s_cell_of) l_cell_of c_cell_of kk_cell_of),
    b_cell_of := ((fun_mk (st := s_cell_of) l_cell_of c_cell_of kk_cell_of).binds (ps := ["number"]) fun _ _ _ _ _ _ => by refine allN ?_; exact fun _ => rfl),
    g_cell_of := (PySem.W.mg_of X G n_f_cell_of),
    k_cell_of := kk_cell_of,
    f_Scan_init := f_Scan_init,
    fd_Scan_init := (PySem.W.fnOf "__init__" "Scan.__init__" (defArgs s_Scan_init) (defBody s_Scan_init) (defScope s_Scan_init) .none kV_Scan_init dc_Scan_init pm_Scan_init an_Scan_init cd_Scan_init ct_Scan_init),
    F_Scan_init := (fun_mk (st := s_Scan_init) l_Scan_init c_Scan_init kk_Scan_init),
    b_Scan_init := ((fun_mk (st := s_Scan_init) l_Scan_init c_Scan_init kk_Scan_init).binds (ps := ["self", "first", "many"]) fun _ _ _ _ _ _ => by refine allN ?_; exact fun _ _ _ => rfl),
    f_Scan_step := f_Scan_step,
    fd_Scan_step := (PySem.W.fnOf "step" "Scan.step" (defArgs s_Scan_step) (defBody s_Scan_step) (defScope s_Scan_step) .none kV_Scan_step dc_Scan_step pm_Scan_step an_Scan_step cd_Scan_step ct_Scan_step),
    F_Scan_step := (fun_mk (st := s_Scan_step) l_Scan_step c_Scan_step kk_Scan_step),
    b_Scan_step := ((fun_mk (st := s_Scan_step) l_Scan_step c_Scan_step kk_Scan_step).binds (ps := ["self", "boxes", "clock", "lent"]) fun _ _ _ _ _ _ => by refine allN ?_; exact fun _ _ _ _ => rfl),
    f_Scan_looked := f_Scan_looked,
    fd_Scan_looked := (PySem.W.fnOf "looked" "Scan.looked" (defArgs s_Scan_looked) (defBody s_Scan_looked) (defScope s_Scan_looked) .none kV_Scan_looked dc_Scan_looked pm_Scan_looked an_Scan_looked cd_Scan_looked ct_Scan_looked),
    F_Scan_looked := (fun_mk (st := s_Scan_looked) l_Scan_looked c_Scan_looked kk_Scan_looked),
    b_Scan_looked := ((fun_mk (st := s_Scan_looked) l_Scan_looked c_Scan_looked kk_Scan_looked).binds (ps := ["self", "lent"]) fun _ _ _ _ _ _ => by refine allN ?_; exact fun _ _ => rfl),
    f_Memory_init := f_Memory_init,
    fd_Memory_init := (PySem.W.fnOf "__init__" "Memory.__init__" (defArgs s_Memory_init) (defBody s_Memory_init) (defScope s_Memory_init) .none kV_Memory_init dc_Memory_init pm_Memory_init an_Memory_init cd_Memory_init ct_Memory_init),
    F_Memory_init := (fun_mk (st := s_Memory_init) l_Memory_init c_Memory_init kk_Memory_init),
    b_Memory_init := ((fun_mk (st := s_Memory_init) l_Memory_init c_Memory_init kk_Memory_init).binds (ps := ["self", "many"]) fun _ _ _ _ _ _ => by refine allN ?_; exact fun _ _ => rfl),
    f_Work_init := f_Work_init,
    fd_Work_init := (PySem.W.fnOf "__init__" "Work.__init__" (defArgs s_Work_init) (defBody s_Work_init) (defScope s_Work_init) .none kV_Work_init dc_Work_init pm_Work_init an_Work_init cd_Work_init ct_Work_init),
    F_Work_init := (fun_mk (st := s_Work_init) l_Work_init c_Work_init kk_Work_init),
    b_Work_init := ((fun_mk (st := s_Work_init) l_Work_init c_Work_init kk_Work_init).binds (ps := ["self", "deed", "hand", "memory", "first", "many"]) fun _ _ _ _ _ _ => by refine allN ?_; exact fun _ _ _ _ _ _ => rfl),
    f_Work_step := f_Work_step,
    fd_Work_step := (PySem.W.fnOf "step" "Work.step" (defArgs s_Work_step) (defBody s_Work_step) (defScope s_Work_step) .none kV_Work_step dc_Work_step pm_Work_step an_Work_step cd_Work_step ct_Work_step),
    F_Work_step := (fun_mk (st := s_Work_step) l_Work_step c_Work_step kk_Work_step),
    b_Work_step := ((fun_mk (st := s_Work_step) l_Work_step c_Work_step kk_Work_step).binds (ps := ["self", "boxes", "clock", "lent"]) fun _ _ _ _ _ _ => by refine allN ?_; exact fun _ _ _ _ => rfl),
    f_One_step := f_One_step,
    fd_One_step := (PySem.W.fnOf "step" "One.step" (defArgs s_One_step) (defBody s_One_step) (defScope s_One_step) .none kV_One_step dc_One_step pm_One_step an_One_step cd_One_step ct_One_step),
    F_One_step := (fun_mk (st := s_One_step) l_One_step c_One_step kk_One_step),
    b_One_step := ((fun_mk (st := s_One_step) l_One_step c_One_step kk_One_step).binds (ps := ["self", "boxes", "clock", "lent"]) fun _ _ _ _ _ _ => by refine allN ?_; exact fun _ _ _ _ => rfl),
    f_Count_init := f_Count_init,
    fd_Count_init := (PySem.W.fnOf "__init__" "Count.__init__" (defArgs s_Count_init) (defBody s_Count_init) (defScope s_Count_init) .none kV_Count_init dc_Count_init pm_Count_init an_Count_init cd_Count_init ct_Count_init),
    F_Count_init := (fun_mk (st := s_Count_init) l_Count_init c_Count_init kk_Count_init),
    b_Count_init := ((fun_mk (st := s_Count_init) l_Count_init c_Count_init kk_Count_init).binds (ps := ["self", "deed", "hand", "memory", "first", "many"]) fun _ _ _ _ _ _ => by refine allN ?_; exact fun _ _ _ _ _ _ => rfl),
    f_Count_step := f_Count_step,
    fd_Count_step := (PySem.W.fnOf "step" "Count.step" (defArgs s_Count_step) (defBody s_Count_step) (defScope s_Count_step) .none kV_Count_step dc_Count_step pm_Count_step an_Count_step cd_Count_step ct_Count_step),
    F_Count_step := (fun_mk (st := s_Count_step) l_Count_step c_Count_step kk_Count_step),
    b_Count_step := ((fun_mk (st := s_Count_step) l_Count_step c_Count_step kk_Count_step).binds (ps := ["self", "boxes", "clock", "lent"]) fun _ _ _ _ _ _ => by refine allN ?_; exact fun _ _ _ _ => rfl),
    f_Look_init := f_Look_init,
    fd_Look_init := (PySem.W.fnOf "__init__" "Look.__init__" (defArgs s_Look_init) (defBody s_Look_init) (defScope s_Look_init) .none kV_Look_init dc_Look_init pm_Look_init an_Look_init cd_Look_init ct_Look_init),
    F_Look_init := (fun_mk (st := s_Look_init) l_Look_init c_Look_init kk_Look_init),
    b_Look_init := ((fun_mk (st := s_Look_init) l_Look_init c_Look_init kk_Look_init).binds (ps := ["self", "deed", "hand", "memory", "first", "many"]) fun _ _ _ _ _ _ => by refine allN ?_; exact fun _ _ _ _ _ _ => rfl),
    f_Look_step := f_Look_step,
    fd_Look_step := (PySem.W.fnOf "step" "Look.step" (defArgs s_Look_step) (defBody s_Look_step) (defScope s_Look_step) .none kV_Look_step dc_Look_step pm_Look_step an_Look_step cd_Look_step ct_Look_step),
    F_Look_step := (fun_mk (st := s_Look_step) l_Look_step c_Look_step kk_Look_step),
    b_Look_step := ((fun_mk (st := s_Look_step) l_Look_step c_Look_step kk_Look_step).binds (ps := ["self", "boxes", "clock", "lent"]) fun _ _ _ _ _ _ => by refine allN ?_; exact fun _ _ _ _ => rfl),
    f_Change_init := f_Change_init,
    fd_Change_init := (PySem.W.fnOf "__init__" "Change.__init__" (defArgs s_Change_init) (defBody s_Change_init) (defScope s_Change_init) .none kV_Change_init dc_Change_init pm_Change_init an_Change_init cd_Change_init ct_Change_init),
    F_Change_init := (fun_mk (st := s_Change_init) l_Change_init c_Change_init kk_Change_init),
    b_Change_init := ((fun_mk (st := s_Change_init) l_Change_init c_Change_init kk_Change_init).binds (ps := ["self", "deed", "hand", "memory", "first", "many"]) fun _ _ _ _ _ _ => by refine allN ?_; exact fun _ _ _ _ _ _ => rfl),
    f_Change_step := f_Change_step,
    fd_Change_step := (PySem.W.fnOf "step" "Change.step" (defArgs s_Change_step) (defBody s_Change_step) (defScope s_Change_step) .none kV_Change_step dc_Change_step pm_Change_step an_Change_step cd_Change_step ct_Change_step),
    F_Change_step := (fun_mk (st := s_Change_step) l_Change_step c_Change_step kk_Change_step),
    b_Change_step := ((fun_mk (st := s_Change_step) l_Change_step c_Change_step kk_Change_step).binds (ps := ["self", "boxes", "clock", "lent"]) fun _ _ _ _ _ _ => by refine allN ?_; exact fun _ _ _ _ => rfl),
    f_Give_init := f_Give_init,
    fd_Give_init := (PySem.W.fnOf "__init__" "Give.__init__" (defArgs s_Give_init) (defBody s_Give_init) (defScope s_Give_init) .none kV_Give_init dc_Give_init pm_Give_init an_Give_init cd_Give_init ct_Give_init),
    F_Give_init := (fun_mk (st := s_Give_init) l_Give_init c_Give_init kk_Give_init),
    b_Give_init := ((fun_mk (st := s_Give_init) l_Give_init c_Give_init kk_Give_init).binds (ps := ["self", "deed", "hand", "memory", "first", "many"]) fun _ _ _ _ _ _ => by refine allN ?_; exact fun _ _ _ _ _ _ => rfl),
    f_Give_step := f_Give_step,
    fd_Give_step := (PySem.W.fnOf "step" "Give.step" (defArgs s_Give_step) (defBody s_Give_step) (defScope s_Give_step) .none kV_Give_step dc_Give_step pm_Give_step an_Give_step cd_Give_step ct_Give_step),
    F_Give_step := (fun_mk (st := s_Give_step) l_Give_step c_Give_step kk_Give_step),
    b_Give_step := ((fun_mk (st := s_Give_step) l_Give_step c_Give_step kk_Give_step).binds (ps := ["self", "boxes", "clock", "lent"]) fun _ _ _ _ _ _ => by refine allN ?_; exact fun _ _ _ _ => rfl),
    f_Take_init := f_Take_init,
    fd_Take_init := (PySem.W.fnOf "__init__" "Take.__init__" (defArgs s_Take_init) (defBody s_Take_init) (defScope s_Take_init) .none kV_Take_init dc_Take_init pm_Take_init an_Take_init cd_Take_init ct_Take_init),
    F_Take_init := (fun_mk (st := s_Take_init) l_Take_init c_Take_init kk_Take_init),
    b_Take_init := ((fun_mk (st := s_Take_init) l_Take_init c_Take_init kk_Take_init).binds (ps := ["self", "deed", "hand", "memory", "first", "many"]) fun _ _ _ _ _ _ => by refine allN ?_; exact fun _ _ _ _ _ _ => rfl),
    f_Take_step := f_Take_step,
    fd_Take_step := (PySem.W.fnOf "step" "Take.step" (defArgs s_Take_step) (defBody s_Take_step) (defScope s_Take_step) .none kV_Take_step dc_Take_step pm_Take_step an_Take_step cd_Take_step ct_Take_step),
    F_Take_step := (fun_mk (st := s_Take_step) l_Take_step c_Take_step kk_Take_step),
    b_Take_step := ((fun_mk (st := s_Take_step) l_Take_step c_Take_step kk_Take_step).binds (ps := ["self", "boxes", "clock", "lent"]) fun _ _ _ _ _ _ => by refine allN ?_; exact fun _ _ _ _ => rfl),
    f_Take_rank := f_Take_rank,
    fd_Take_rank := (PySem.W.fnOf "rank" "Take.rank" (defArgs s_Take_rank) (defBody s_Take_rank) (defScope s_Take_rank) .none kV_Take_rank dc_Take_rank pm_Take_rank an_Take_rank cd_Take_rank ct_Take_rank),
    F_Take_rank := (fun_mk (st := s_Take_rank) l_Take_rank c_Take_rank kk_Take_rank),
    b_Take_rank := ((fun_mk (st := s_Take_rank) l_Take_rank c_Take_rank kk_Take_rank).binds (ps := ["self", "k"]) fun _ _ _ _ _ _ => by refine allN ?_; exact fun _ _ => rfl),
    f_work_of := f_work_of,
    fd_work_of := (PySem.W.fnOf "work_of" "work_of" (defArgs s_work_of) (defBody s_work_of) (defScope s_work_of) .none kV_work_of dc_work_of pm_work_of an_work_of cd_work_of ct_work_of),
    F_work_of := (fun_mk (st := s_work_of) l_work_of c_work_of kk_work_of),
    b_work_of := ((fun_mk (st := s_work_of) l_work_of c_work_of kk_work_of).binds (ps := ["deed", "hand", "memory", "many"]) fun _ _ _ _ _ _ => by refine allN ?_; exact fun _ _ _ _ => rfl),
    g_work_of := (PySem.W.mg_of X G n_f_work_of),
    k_work_of := kk_work_of,
    f_Done_init := f_Done_init,
    fd_Done_init := (PySem.W.fnOf "__init__" "Done.__init__" (defArgs s_Done_init) (defBody s_Done_init) (defScope s_Done_init) .none kV_Done_init dc_Done_init pm_Done_init an_Done_init cd_Done_init ct_Done_init),
    F_Done_init := (fun_mk (st := s_Done_init) l_Done_init c_Done_init kk_Done_init),
    b_Done_init := ((fun_mk (st := s_Done_init) l_Done_init c_Done_init kk_Done_init).binds (ps := ["self", "work", "begin", "end"]) fun _ _ _ _ _ _ => by refine allN ?_; exact fun _ _ _ _ => rfl),
    f_Hall_init := f_Hall_init,
    fd_Hall_init := (PySem.W.fnOf "__init__" "Hall.__init__" (defArgs s_Hall_init) (defBody s_Hall_init) (defScope s_Hall_init) .none kV_Hall_init dc_Hall_init pm_Hall_init an_Hall_init cd_Hall_init ct_Hall_init),
    F_Hall_init := (fun_mk (st := s_Hall_init) l_Hall_init c_Hall_init kk_Hall_init),
    b_Hall_init := ((fun_mk (st := s_Hall_init) l_Hall_init c_Hall_init kk_Hall_init).binds (ps := ["self", "plans"]) fun _ _ _ _ _ _ => by refine allN ?_; exact fun _ _ => rfl),
    f_Hall_need_hand := f_Hall_need_hand,
    fd_Hall_need_hand := (PySem.W.fnOf "need_hand" "Hall.need_hand" (defArgs s_Hall_need_hand) (defBody s_Hall_need_hand) (defScope s_Hall_need_hand) .none kV_Hall_need_hand dc_Hall_need_hand pm_Hall_need_hand an_Hall_need_hand cd_Hall_need_hand ct_Hall_need_hand),
    F_Hall_need_hand := (fun_mk (st := s_Hall_need_hand) l_Hall_need_hand c_Hall_need_hand kk_Hall_need_hand),
    b_Hall_need_hand := ((fun_mk (st := s_Hall_need_hand) l_Hall_need_hand c_Hall_need_hand kk_Hall_need_hand).binds (ps := ["self", "hand"]) fun _ _ _ _ _ _ => by refine allN ?_; exact fun _ _ => rfl),
    f_Hall_step := f_Hall_step,
    fd_Hall_step := (PySem.W.fnOf "step" "Hall.step" (defArgs s_Hall_step) (defBody s_Hall_step) (defScope s_Hall_step) .none kV_Hall_step dc_Hall_step pm_Hall_step an_Hall_step cd_Hall_step ct_Hall_step),
    F_Hall_step := (fun_mk (st := s_Hall_step) l_Hall_step c_Hall_step kk_Hall_step),
    b_Hall_step := ((fun_mk (st := s_Hall_step) l_Hall_step c_Hall_step kk_Hall_step).binds (ps := ["self", "hand"]) fun _ _ _ _ _ _ => by refine allN ?_; exact fun _ _ => rfl),
    f_Hall_weave := f_Hall_weave,
    fd_Hall_weave := (PySem.W.fnOf "weave" "Hall.weave" (defArgs s_Hall_weave) (defBody s_Hall_weave) (defScope s_Hall_weave) .none kV_Hall_weave dc_Hall_weave pm_Hall_weave an_Hall_weave cd_Hall_weave ct_Hall_weave),
    F_Hall_weave := (fun_mk (st := s_Hall_weave) l_Hall_weave c_Hall_weave kk_Hall_weave),
    b_Hall_weave := ((fun_mk (st := s_Hall_weave) l_Hall_weave c_Hall_weave kk_Hall_weave).binds (ps := ["self", "row"]) fun _ _ _ _ _ _ => by refine allN ?_; exact fun _ _ => rfl),
    f_Hall_records := f_Hall_records,
    fd_Hall_records := (PySem.W.fnOf "records" "Hall.records" (defArgs s_Hall_records) (defBody s_Hall_records) (defScope s_Hall_records) .none kV_Hall_records dc_Hall_records pm_Hall_records an_Hall_records cd_Hall_records ct_Hall_records),
    F_Hall_records := (fun_mk (st := s_Hall_records) l_Hall_records c_Hall_records kk_Hall_records),
    b_Hall_records := ((fun_mk (st := s_Hall_records) l_Hall_records c_Hall_records kk_Hall_records).binds (ps := ["self"]) fun _ _ _ _ _ _ => by refine allN ?_; exact fun _ => rfl),
    f__law_cell := f__law_cell,
    fd__law_cell := (PySem.W.fnOf "_law_cell" "_law_cell" (defArgs s__law_cell) (defBody s__law_cell) (defScope s__law_cell) .none kV__law_cell dc__law_cell pm__law_cell an__law_cell cd__law_cell ct__law_cell),
    F__law_cell := (fun_mk (st := s__law_cell) l__law_cell c__law_cell kk__law_cell),
    b__law_cell := ((fun_mk (st := s__law_cell) l__law_cell c__law_cell kk__law_cell).binds (ps := ["_law_script", "_law_k"]) fun _ _ _ _ _ _ => by refine allN ?_; exact fun _ _ => rfl),
    g__law_cell := (PySem.W.mg_of X G n_f__law_cell),
    k__law_cell := kk__law_cell,
    f__law_dice := f__law_dice,
    fd__law_dice := (PySem.W.fnOf "_law_dice" "_law_dice" (defArgs s__law_dice) (defBody s__law_dice) (defScope s__law_dice) .none kV__law_dice dc__law_dice pm__law_dice an__law_dice cd__law_dice ct__law_dice),
    F__law_dice := (fun_mk (st := s__law_dice) l__law_dice c__law_dice kk__law_dice),
    b__law_dice := ((fun_mk (st := s__law_dice) l__law_dice c__law_dice kk__law_dice).binds (ps := ["_law_script", "_law_k"]) fun _ _ _ _ _ _ => by refine allN ?_; exact fun _ _ => rfl),
    g__law_dice := (PySem.W.mg_of X G n_f__law_dice),
    k__law_dice := kk__law_dice,
    f__law_off := f__law_off,
    fd__law_off := (PySem.W.fnOf "_law_off" "_law_off" (defArgs s__law_off) (defBody s__law_off) (defScope s__law_off) .none kV__law_off dc__law_off pm__law_off an__law_off cd__law_off ct__law_off),
    F__law_off := (fun_mk (st := s__law_off) l__law_off c__law_off kk__law_off),
    b__law_off := ((fun_mk (st := s__law_off) l__law_off c__law_off kk__law_off).binds (ps := ["_law_d", "_law_most"]) fun _ _ _ _ _ _ => by refine allN ?_; exact fun _ _ => rfl),
    g__law_off := (PySem.W.mg_of X G n_f__law_off),
    k__law_off := kk__law_off,
    f__law_deed := f__law_deed,
    fd__law_deed := (PySem.W.fnOf "_law_deed" "_law_deed" (defArgs s__law_deed) (defBody s__law_deed) (defScope s__law_deed) .none kV__law_deed dc__law_deed pm__law_deed an__law_deed cd__law_deed ct__law_deed),
    F__law_deed := (fun_mk (st := s__law_deed) l__law_deed c__law_deed kk__law_deed),
    b__law_deed := ((fun_mk (st := s__law_deed) l__law_deed c__law_deed kk__law_deed).binds (ps := ["_law_d", "_law_word"]) fun _ _ _ _ _ _ => by refine allN ?_; exact fun _ _ => rfl),
    g__law_deed := (PySem.W.mg_of X G n_f__law_deed),
    k__law_deed := kk__law_deed,
    f__law_plans := f__law_plans,
    fd__law_plans := (PySem.W.fnOf "_law_plans" "_law_plans" (defArgs s__law_plans) (defBody s__law_plans) (defScope s__law_plans) .none kV__law_plans dc__law_plans pm__law_plans an__law_plans cd__law_plans ct__law_plans),
    F__law_plans := (fun_mk (st := s__law_plans) l__law_plans c__law_plans kk__law_plans),
    b__law_plans := ((fun_mk (st := s__law_plans) l__law_plans c__law_plans kk__law_plans).binds (ps := ["_law_d", "_law_many", "_law_words", "_law_most"]) fun _ _ _ _ _ _ => by refine allN ?_; exact fun _ _ _ _ => rfl),
    g__law_plans := (PySem.W.mg_of X G n_f__law_plans),
    k__law_plans := kk__law_plans,
    f__law_weave := f__law_weave,
    fd__law_weave := (PySem.W.fnOf "_law_weave" "_law_weave" (defArgs s__law_weave) (defBody s__law_weave) (defScope s__law_weave) .none kV__law_weave dc__law_weave pm__law_weave an__law_weave cd__law_weave ct__law_weave),
    F__law_weave := (fun_mk (st := s__law_weave) l__law_weave c__law_weave kk__law_weave),
    b__law_weave := ((fun_mk (st := s__law_weave) l__law_weave c__law_weave kk__law_weave).binds (ps := ["_law_d", "_law_many", "_law_count"]) fun _ _ _ _ _ _ => by refine allN ?_; exact fun _ _ _ => rfl),
    g__law_weave := (PySem.W.mg_of X G n_f__law_weave),
    k__law_weave := kk__law_weave,
    f_law := f_law,
    fd_law := (PySem.W.fnOf "law" "law" (defArgs s_law) (defBody s_law) (defScope s_law) .none kV_law dc_law pm_law an_law cd_law ct_law),
    F_law := (fun_mk (st := s_law) l_law c_law kk_law),
    b_law := ((fun_mk (st := s_law) l_law c_law kk_law).binds (ps := ["_law_script"]) fun _ _ _ _ _ _ => by refine allN ?_; exact fun _ => rfl),
    g_law := (PySem.W.mg_of X G n_f_law),
    k_law := kk_law,
    g_Boxes := (PySem.W.mg_of X G n_c_Boxes),
    mk_Boxes := ⟨mk_Boxes, mi_Boxes, if_Boxes, kc_Boxes⟩,
    m_Boxes_need := ⟨ma_Boxes_need, mf_Boxes_need, kk_Boxes_need⟩,
    m_Boxes_take := ⟨ma_Boxes_take, mf_Boxes_take, kk_Boxes_take⟩,
    m_Boxes_put := ⟨ma_Boxes_put, mf_Boxes_put, kk_Boxes_put⟩,
    g_Scan := (PySem.W.mg_of X G n_c_Scan),
    mk_Scan := ⟨mk_Scan, mi_Scan, if_Scan, kc_Scan⟩,
    m_Scan_step := ⟨ma_Scan_step, mf_Scan_step, kk_Scan_step⟩,
    m_Scan_looked := ⟨ma_Scan_looked, mf_Scan_looked, kk_Scan_looked⟩,
    g_Memory := (PySem.W.mg_of X G n_c_Memory),
    mk_Memory := ⟨mk_Memory, mi_Memory, if_Memory, kc_Memory⟩,
    g_Work := (PySem.W.mg_of X G n_c_Work),
    mk_Work := ⟨mk_Work, mi_Work, if_Work, kc_Work⟩,
    m_Work_step := ⟨ma_Work_step, mf_Work_step, kk_Work_step⟩,
    g_One := (PySem.W.mg_of X G n_c_One),
    mk_One := ⟨mk_One, mi_One, if_One, kc_One⟩,
    m_One_step := ⟨ma_One_step, mf_One_step, kk_One_step⟩,
    g_Count := (PySem.W.mg_of X G n_c_Count),
    mk_Count := ⟨mk_Count, mi_Count, if_Count, kc_Count⟩,
    m_Count_step := ⟨ma_Count_step, mf_Count_step, kk_Count_step⟩,
    g_Look := (PySem.W.mg_of X G n_c_Look),
    mk_Look := ⟨mk_Look, mi_Look, if_Look, kc_Look⟩,
    m_Look_step := ⟨ma_Look_step, mf_Look_step, kk_Look_step⟩,
    g_Change := (PySem.W.mg_of X G n_c_Change),
    mk_Change := ⟨mk_Change, mi_Change, if_Change, kc_Change⟩,
    m_Change_step := ⟨ma_Change_step, mf_Change_step, kk_Change_step⟩,
    g_Give := (PySem.W.mg_of X G n_c_Give),
    mk_Give := ⟨mk_Give, mi_Give, if_Give, kc_Give⟩,
    m_Give_step := ⟨ma_Give_step, mf_Give_step, kk_Give_step⟩,
    g_Take := (PySem.W.mg_of X G n_c_Take),
    mk_Take := ⟨mk_Take, mi_Take, if_Take, kc_Take⟩,
    m_Take_step := ⟨ma_Take_step, mf_Take_step, kk_Take_step⟩,
    m_Take_rank := ⟨ma_Take_rank, mf_Take_rank, kk_Take_rank⟩,
    g_Done := (PySem.W.mg_of X G n_c_Done),
    mk_Done := ⟨mk_Done, mi_Done, if_Done, kc_Done⟩,
    g_Hall := (PySem.W.mg_of X G n_c_Hall),
    mk_Hall := ⟨mk_Hall, mi_Hall, if_Hall, kc_Hall⟩,
    m_Hall_need_hand := ⟨ma_Hall_need_hand, mf_Hall_need_hand, kk_Hall_need_hand⟩,
    m_Hall_step := ⟨ma_Hall_step, mf_Hall_step, kk_Hall_step⟩,
    m_Hall_weave := ⟨ma_Hall_weave, mf_Hall_weave, kk_Hall_weave⟩,
    m_Hall_records := ⟨ma_Hall_records, mf_Hall_records, kk_Hall_records⟩,
    bm_Take_rank := ⟨⟨ma_Take_rank, mf_Take_rank, kk_Take_rank⟩, bg_rank, bt_rank, by decide +kernel, bf_rank⟩,
    cr_Work := ⟨rd_Work, sg_Work⟩,
    cf_Work_init := fc_Work_Work_init,
    kk_Work_init := kk_Work_init,
    e_HandsError := e_HandsError,
    g_HandsError := (PySem.W.mg_of X G n_e_HandsError),
    k_HandsError := k_HandsError,
    x_HandsError := x_HandsError,
    xb_HandsError := xb_HandsError,
    xt_HandsError := xt_HandsError,
    e_NoNumber := e_NoNumber,
    g_NoNumber := (PySem.W.mg_of X G n_e_NoNumber),
    k_NoNumber := k_NoNumber,
    x_NoNumber := x_NoNumber,
    xb_NoNumber := xb_NoNumber,
    xt_NoNumber := xt_NoNumber,
    e_NoBox := e_NoBox,
    g_NoBox := (PySem.W.mg_of X G n_e_NoBox),
    k_NoBox := k_NoBox,
    x_NoBox := x_NoBox,
    xb_NoBox := xb_NoBox,
    xt_NoBox := xt_NoBox,
    e_NoHand := e_NoHand,
    g_NoHand := (PySem.W.mg_of X G n_e_NoHand),
    k_NoHand := k_NoHand,
    x_NoHand := x_NoHand,
    xb_NoHand := xb_NoHand,
    xt_NoHand := xt_NoHand,
    e_NoDeed := e_NoDeed,
    g_NoDeed := (PySem.W.mg_of X G n_e_NoDeed),
    k_NoDeed := k_NoDeed,
    x_NoDeed := x_NoDeed,
    xb_NoDeed := xb_NoDeed,
    xt_NoDeed := xt_NoDeed,
    gt_MOST_NUMBER := gt_MOST_NUMBER,
    g_MOST_NUMBER := (PySem.W.mg_of X G n_k_MOST_NUMBER),
    a_WITH_NUMBER := a_WITH_NUMBER,
    g_WITH_NUMBER := (PySem.W.mg_of X G n_k_WITH_NUMBER),
    t_WITH_NUMBER := (fun _ => .inr ⟨_, _, _, l_k_WITH_NUMBER, rfl, rfl, by show 4 ≤ sizeLine; decide, (.cons ⟨_, rfl⟩ (.cons ⟨_, rfl⟩ (.cons ⟨_, rfl⟩ (.cons ⟨_, rfl⟩ .nil))))⟩),
    a_ALONE := a_ALONE,
    g_ALONE := (PySem.W.mg_of X G n_k_ALONE),
    t_ALONE := (fun _ => .inr ⟨_, _, _, l_k_ALONE, rfl, rfl, by show 6 ≤ sizeLine; decide, (.cons ⟨_, rfl⟩ (.cons ⟨_, rfl⟩ (.cons ⟨_, rfl⟩ (.cons ⟨_, rfl⟩ (.cons ⟨_, rfl⟩ (.cons ⟨_, rfl⟩ .nil))))))⟩),
    gt_BASE := gt_BASE,
    g_BASE := (PySem.W.mg_of X G n_k_BASE),
    ww := w,
    a_PLACES := a_PLACES,
    g_PLACES := (PySem.W.mg_of X G n_k_PLACES),
    d_PLACES_one := ⟨_, _, _, l_k_PLACES, kl_PLACES, kd_PLACES_one, ⟨_, rfl⟩⟩,
    d_PLACES_count := ⟨_, _, _, l_k_PLACES, kl_PLACES, kd_PLACES_count, ⟨_, rfl⟩⟩,
    d_PLACES_set := ⟨_, _, _, l_k_PLACES, kl_PLACES, kd_PLACES_set, ⟨_, rfl⟩⟩,
    d_PLACES_look := ⟨_, _, _, l_k_PLACES, kl_PLACES, kd_PLACES_look, ⟨_, rfl⟩⟩,
    d_PLACES_add := ⟨_, _, _, l_k_PLACES, kl_PLACES, kd_PLACES_add, ⟨_, rfl⟩⟩,
    d_PLACES_sum := ⟨_, _, _, l_k_PLACES, kl_PLACES, kd_PLACES_sum, ⟨_, rfl⟩⟩,
    d_PLACES_raise := ⟨_, _, _, l_k_PLACES, kl_PLACES, kd_PLACES_raise, ⟨_, rfl⟩⟩,
    d_PLACES_top := ⟨_, _, _, l_k_PLACES, kl_PLACES, kd_PLACES_top, ⟨_, rfl⟩⟩,
    d_PLACES_give := ⟨_, _, _, l_k_PLACES, kl_PLACES, kd_PLACES_give, ⟨_, rfl⟩⟩,
    d_PLACES_take := ⟨_, _, _, l_k_PLACES, kl_PLACES, kd_PLACES_take, ⟨_, rfl⟩⟩,
    gt_MOST_HANDS := gt_MOST_HANDS,
    g_MOST_HANDS := (PySem.W.mg_of X G n_k_MOST_HANDS),
    gt_MOST_DEEDS := gt_MOST_DEEDS,
    g_MOST_DEEDS := (PySem.W.mg_of X G n_k_MOST_DEEDS),
    gt_THINGS := gt_THINGS,
    g_THINGS := (PySem.W.mg_of X G n_k_THINGS),
    bn_len := (PySem.W.mg_none_of X G z_len),
    bn_abs := (PySem.W.mg_none_of X G z_abs),
    bn_sum := (PySem.W.mg_none_of X G z_sum),
    bn_max := (PySem.W.mg_none_of X G z_max),
    bn_min := (PySem.W.mg_none_of X G z_min),
    bn_int := (PySem.W.mg_none_of X G z_int),
    bn_isinstance := (PySem.W.mg_none_of X G z_isinstance),
    bn_list := (PySem.W.mg_none_of X G z_list),
    bn_tuple := (PySem.W.mg_none_of X G z_tuple),
    bn_range := (PySem.W.mg_none_of X G z_range),
    bn_reversed := (PySem.W.mg_none_of X G z_reversed),
    bn_enumerate := (PySem.W.mg_none_of X G z_enumerate),
    bn_bool := (PySem.W.mg_none_of X G z_bool),
    bn_ValueError := (PySem.W.mg_none_of X G z_ValueError) }
  exact ⟨E.fd_law, fun s v => .of_eq rfl, fun base _ _ => ok_law E⟩
theorem walk {l : PySem.W.OpenLaw} {q : Program} {loose : List Str} {XP : (Str → Option Value) → Heap → Prop} {YP : World → Heap → Prop} {d : DefRec} {K : Params → PySem.W.Frag} (hn : l.most = some 63) (hdf : d.params.defaults = [])
    (hY : ∀ (w : World) (h : Heap), YP w h → (K w.params).In h)
    (F : ∀ (w : World) (mg : Str → Option Value) (fa : Addr) (h : Heap), (K w.params).In h → h.Ns mainGlobals mg → mg d.name = some (.ref fa) →
      ∃ fd : FuncData, (∀ (s : Shared) (u : Value), BindsTo s fd ⟨[u], []⟩ [("_law_script", u)]) ∧ ∀ base : Heap, (K w.params).In base → base.Ns mainGlobals mg → FnOk l.prog w (K w.params) mg base CX0 8 fa fd ["_law_script"] (spS (S_law (K w.params)))) :
    PySem.W.WalkO q loose XP YP l.row.toRowW d [] (fun f vs => PySem.call f vs) :=
  L2.walk_of (n := 63) (k := 8) (x := "_law_script") (CX := fun _ => CX0) (sp := fun w => spS (S_law (K w.params))) hn (by decide) hdf ⟨rfl, by decide, by decide⟩ hY F (fun _ _ a ns hl _ hS => ⟨_, fun v _ => v = .bl true, Sat.scr hS, ⟨a, ns, rfl, rfl, hl, fun _ => rfl⟩, fun _ _ _ e _ => e⟩) fun _ _ _ _ _ z => z
end My
open PySem PySem.W PyProof.Rows
set_option maxRecDepth 100000 in
set_option maxHeartbeats 0 in
theorem PySem.Challenge.cw_stillhands_k19_counts_lie_between_holds : PySem.Challenge.rw_stillhands_k19_counts_lie_between.Holds := by
  w_on; o_law; k_head; (case hw => w_witness2)
  k_fill
  refine My.walk (l := PySem.Challenge.rw_stillhands_k19_counts_lie_between) rfl rfl (fun w h Y => PySem.W.kIn_of Y) ?F
  case F =>
    intro w mg fa h KX G hmg
    refine' My.all_mk KX G hmg ?n_f_need_deed ?n_f_packed ?n_f_parted ?n_f_cell_of ?n_f_work_of ?n_f__law_cell ?n_f__law_dice ?n_f__law_off ?n_f__law_deed ?n_f__law_plans ?n_f__law_weave ?n_f_law ?n_c_Boxes ?n_c_Scan ?n_c_Memory ?n_c_Work ?n_c_One ?n_c_Count ?n_c_Look ?n_c_Change ?n_c_Give ?n_c_Take ?n_c_Done ?n_c_Hall ?n_e_HandsError ?n_e_NoNumber ?n_e_NoBox ?n_e_NoHand ?n_e_NoDeed ?n_k_MOST_NUMBER ?n_k_WITH_NUMBER ?n_k_ALONE ?n_k_BASE ?n_k_PLACES ?n_k_MOST_HANDS ?n_k_MOST_DEEDS ?n_k_THINGS ?mi_Boxes ?ma_Boxes_need ?ma_Boxes_take ?ma_Boxes_put ?mi_Scan ?ma_Scan_step ?ma_Scan_looked ?mi_Memory ?mi_Work ?ma_Work_step ?mi_One ?ma_One_step ?mi_Count ?ma_Count_step ?mi_Look ?ma_Look_step ?mi_Change ?ma_Change_step ?mi_Give ?ma_Give_step ?mi_Take ?ma_Take_step ?ma_Take_rank ?mi_Done ?mi_Hall ?ma_Hall_need_hand ?ma_Hall_step ?ma_Hall_weave ?ma_Hall_records ?l_Boxes_init ?l_Boxes_need ?l_Boxes_take ?l_Boxes_put ?l_need_deed ?l_packed ?l_parted ?l_cell_of ?l_Scan_init ?l_Scan_step ?l_Scan_looked ?l_Memory_init ?l_Work_init ?l_Work_step ?l_One_step ?l_Count_init ?l_Count_step ?l_Look_init ?l_Look_step ?l_Change_init ?l_Change_step ?l_Give_init ?l_Give_step ?l_Take_init ?l_Take_step ?l_Take_rank ?l_work_of ?l_Done_init ?l_Hall_init ?l_Hall_need_hand ?l_Hall_step ?l_Hall_weave ?l_Hall_records ?l__law_cell ?l__law_dice ?l__law_off ?l__law_deed ?l__law_plans ?l__law_weave ?l_law ?l_k_WITH_NUMBER ?l_k_ALONE ?l_k_PLACES ?c_Boxes_init ?kk_Boxes_init ?c_Boxes_need ?kk_Boxes_need ?c_Boxes_take ?kk_Boxes_take ?c_Boxes_put ?kk_Boxes_put ?c_need_deed ?kk_need_deed ?c_packed ?kk_packed ?c_parted ?kk_parted ?c_cell_of ?kk_cell_of ?c_Scan_init ?kk_Scan_init ?c_Scan_step ?kk_Scan_step ?c_Scan_looked ?kk_Scan_looked ?c_Memory_init ?kk_Memory_init ?c_Work_init ?kk_Work_init ?c_Work_step ?kk_Work_step ?c_One_step ?kk_One_step ?c_Count_init ?kk_Count_init ?c_Count_step ?kk_Count_step ?c_Look_init ?kk_Look_init ?c_Look_step ?kk_Look_step ?c_Change_init ?kk_Change_init ?c_Change_step ?kk_Change_step ?c_Give_init ?kk_Give_init ?c_Give_step ?kk_Give_step ?c_Take_init ?kk_Take_init ?c_Take_step ?kk_Take_step ?c_Take_rank ?kk_Take_rank ?c_work_of ?kk_work_of ?c_Done_init ?kk_Done_init ?c_Hall_init ?kk_Hall_init ?c_Hall_need_hand ?kk_Hall_need_hand ?c_Hall_step ?kk_Hall_step ?c_Hall_weave ?kk_Hall_weave ?c_Hall_records ?kk_Hall_records ?c__law_cell ?kk__law_cell ?c__law_dice ?kk__law_dice ?c__law_off ?kk__law_off ?c__law_deed ?kk__law_deed ?c__law_plans ?kk__law_plans ?c__law_weave ?kk__law_weave ?c_law ?kk_law ?pg_Boxes ?hd_Boxes ?po_Boxes ?sa_Boxes ?kc_Boxes ?no_Boxes_0 ?no_Boxes_1 ?no_Boxes_2 ?mk_Boxes ?if_Boxes ?mf_Boxes_need ?mf_Boxes_take ?mf_Boxes_put ?pg_Scan ?hd_Scan ?po_Scan ?sa_Scan ?kc_Scan ?no_Scan_0 ?no_Scan_1 ?no_Scan_2 ?no_Scan_3 ?no_Scan_4 ?no_Scan_5 ?no_Scan_6 ?no_Scan_7 ?mk_Scan ?if_Scan ?mf_Scan_step ?mf_Scan_looked ?pg_Memory ?hd_Memory ?po_Memory ?sa_Memory ?kc_Memory ?no_Memory_0 ?no_Memory_1 ?no_Memory_2 ?no_Memory_3 ?no_Memory_4 ?mk_Memory ?if_Memory ?pg_Work ?hd_Work ?po_Work ?sa_Work ?kc_Work ?no_Work_0 ?no_Work_1 ?no_Work_2 ?no_Work_3 ?no_Work_4 ?no_Work_5 ?no_Work_6 ?no_Work_7 ?no_Work_8 ?no_Work_9 ?mk_Work ?if_Work ?mf_Work_step ?pg_One ?hd_One ?po_One ?sa_One ?kc_One ?no_One_0 ?no_One_1 ?no_One_2 ?no_One_3 ?no_One_4 ?no_One_5 ?no_One_6 ?no_One_7 ?no_One_8 ?no_One_9 ?mk_One ?if_One ?mf_One_step ?pg_Count ?hd_Count ?po_Count ?sa_Count ?kc_Count ?no_Count_0 ?no_Count_1 ?no_Count_2 ?no_Count_3 ?no_Count_4 ?no_Count_5 ?no_Count_6 ?no_Count_7 ?no_Count_8 ?no_Count_9 ?no_Count_10 ?mk_Count ?if_Count ?mf_Count_step ?pg_Look ?hd_Look ?po_Look ?sa_Look ?kc_Look ?no_Look_0 ?no_Look_1 ?no_Look_2 ?no_Look_3 ?no_Look_4 ?no_Look_5 ?no_Look_6 ?no_Look_7 ?no_Look_8 ?no_Look_9 ?no_Look_10 ?mk_Look ?if_Look ?mf_Look_step ?pg_Change ?hd_Change ?po_Change ?sa_Change ?kc_Change ?no_Change_0 ?no_Change_1 ?no_Change_2 ?no_Change_3 ?no_Change_4 ?no_Change_5 ?no_Change_6 ?no_Change_7 ?no_Change_8 ?no_Change_9 ?no_Change_10 ?mk_Change ?if_Change ?mf_Change_step ?pg_Give ?hd_Give ?po_Give ?sa_Give ?kc_Give ?no_Give_0 ?no_Give_1 ?no_Give_2 ?no_Give_3 ?no_Give_4 ?no_Give_5 ?no_Give_6 ?no_Give_7 ?no_Give_8 ?no_Give_9 ?no_Give_10 ?mk_Give ?if_Give ?mf_Give_step ?pg_Take ?hd_Take ?po_Take ?sa_Take ?kc_Take ?no_Take_0 ?no_Take_1 ?no_Take_2 ?no_Take_3 ?no_Take_4 ?no_Take_5 ?no_Take_6 ?no_Take_7 ?no_Take_8 ?no_Take_9 ?no_Take_10 ?no_Take_11 ?mk_Take ?if_Take ?mf_Take_step ?mf_Take_rank ?pg_Done ?hd_Done ?po_Done ?sa_Done ?kc_Done ?no_Done_0 ?no_Done_1 ?no_Done_2 ?mk_Done ?if_Done ?pg_Hall ?hd_Hall ?po_Hall ?sa_Hall ?kc_Hall ?no_Hall_0 ?no_Hall_1 ?no_Hall_2 ?no_Hall_3 ?no_Hall_4 ?no_Hall_5 ?no_Hall_6 ?no_Hall_7 ?no_Hall_8 ?no_Hall_9 ?mk_Hall ?if_Hall ?mf_Hall_need_hand ?mf_Hall_step ?mf_Hall_weave ?mf_Hall_records ?bg_rank ?bt_rank ?bf_rank ?rd_Work ?sg_Work ?fc_Work_Work_init ?k_HandsError ?x_HandsError ?xb_HandsError ?xt_HandsError ?k_NoNumber ?x_NoNumber ?xb_NoNumber ?xt_NoNumber ?k_NoBox ?x_NoBox ?xb_NoBox ?xt_NoBox ?k_NoHand ?x_NoHand ?xb_NoHand ?xt_NoHand ?k_NoDeed ?x_NoDeed ?xb_NoDeed ?xt_NoDeed ?kl_PLACES ?kd_PLACES_one ?kd_PLACES_count ?kd_PLACES_set ?kd_PLACES_look ?kd_PLACES_add ?kd_PLACES_sum ?kd_PLACES_raise ?kd_PLACES_top ?kd_PLACES_give ?kd_PLACES_take ?z_len ?z_abs ?z_sum ?z_max ?z_min ?z_int ?z_isinstance ?z_list ?z_tuple ?z_range ?z_reversed ?z_enumerate ?z_bool ?z_ValueError
    (case n_f_need_deed => k_is)
    (case n_f_packed => k_is)
    (case n_f_parted => k_is)
    (case n_f_cell_of => k_is)
    (case n_f_work_of => k_is)
    (case n_f__law_cell => k_is)
    (case n_f__law_dice => k_is)
    (case n_f__law_off => k_is)
    (case n_f__law_deed => k_is)
    (case n_f__law_plans => k_is)
    (case n_f__law_weave => k_is)
    (case n_f_law => k_is)
    (case n_c_Boxes => k_is)
    (case n_c_Scan => k_is)
    (case n_c_Memory => k_is)
    (case n_c_Work => k_is)
    (case n_c_One => k_is)
    (case n_c_Count => k_is)
    (case n_c_Look => k_is)
    (case n_c_Change => k_is)
    (case n_c_Give => k_is)
    (case n_c_Take => k_is)
    (case n_c_Done => k_is)
    (case n_c_Hall => k_is)
    (case n_e_HandsError => k_is)
    (case n_e_NoNumber => k_is)
    (case n_e_NoBox => k_is)
    (case n_e_NoHand => k_is)
    (case n_e_NoDeed => k_is)
    (case n_k_MOST_NUMBER => k_is)
    (case n_k_WITH_NUMBER => k_is)
    (case n_k_ALONE => k_is)
    (case n_k_BASE => k_is)
    (case n_k_PLACES => k_is)
    (case n_k_MOST_HANDS => k_is)
    (case n_k_MOST_DEEDS => k_is)
    (case n_k_THINGS => k_is)
    (case mi_Boxes => k_is)
    (case ma_Boxes_need => k_is)
    (case ma_Boxes_take => k_is)
    (case ma_Boxes_put => k_is)
    (case mi_Scan => k_is)
    (case ma_Scan_step => k_is)
    (case ma_Scan_looked => k_is)
    (case mi_Memory => k_is)
    (case mi_Work => k_is)
    (case ma_Work_step => k_is)
    (case mi_One => k_is)
    (case ma_One_step => k_is)
    (case mi_Count => k_is)
    (case ma_Count_step => k_is)
    (case mi_Look => k_is)
    (case ma_Look_step => k_is)
    (case mi_Change => k_is)
    (case ma_Change_step => k_is)
    (case mi_Give => k_is)
    (case ma_Give_step => k_is)
    (case mi_Take => k_is)
    (case ma_Take_step => k_is)
    (case ma_Take_rank => k_is)
    (case mi_Done => k_is)
    (case mi_Hall => k_is)
    (case ma_Hall_need_hand => k_is)
    (case ma_Hall_step => k_is)
    (case ma_Hall_weave => k_is)
    (case ma_Hall_records => k_is)
    (case l_Boxes_init => k_is)
    (case l_Boxes_need => k_is)
    (case l_Boxes_take => k_is)
    (case l_Boxes_put => k_is)
    (case l_need_deed => k_is)
    (case l_packed => k_is)
    (case l_parted => k_is)
    (case l_cell_of => k_is)
    (case l_Scan_init => k_is)
    (case l_Scan_step => k_is)
    (case l_Scan_looked => k_is)
    (case l_Memory_init => k_is)
    (case l_Work_init => k_is)
    (case l_Work_step => k_is)
    (case l_One_step => k_is)
    (case l_Count_init => k_is)
    (case l_Count_step => k_is)
    (case l_Look_init => k_is)
    (case l_Look_step => k_is)
    (case l_Change_init => k_is)
    (case l_Change_step => k_is)
    (case l_Give_init => k_is)
    (case l_Give_step => k_is)
    (case l_Take_init => k_is)
    (case l_Take_step => k_is)
    (case l_Take_rank => k_is)
    (case l_work_of => k_is)
    (case l_Done_init => k_is)
    (case l_Hall_init => k_is)
    (case l_Hall_need_hand => k_is)
    (case l_Hall_step => k_is)
    (case l_Hall_weave => k_is)
    (case l_Hall_records => k_is)
    (case l__law_cell => k_is)
    (case l__law_dice => k_is)
    (case l__law_off => k_is)
    (case l__law_deed => k_is)
    (case l__law_plans => k_is)
    (case l__law_weave => k_is)
    (case l_law => k_is)
    (case l_k_WITH_NUMBER => k_is)
    (case l_k_ALONE => k_is)
    (case l_k_PLACES => k_is)
    (case c_Boxes_init => k_is)
    (case kk_Boxes_init => k_is)
    (case c_Boxes_need => k_is)
    (case kk_Boxes_need => k_is)
    (case c_Boxes_take => k_is)
    (case kk_Boxes_take => k_is)
    (case c_Boxes_put => k_is)
    (case kk_Boxes_put => k_is)
    (case c_need_deed => k_is)
    (case kk_need_deed => k_is)
    (case c_packed => k_is)
    (case kk_packed => k_is)
    (case c_parted => k_is)
    (case kk_parted => k_is)
    (case c_cell_of => k_is)
    (case kk_cell_of => k_is)
    (case c_Scan_init => k_is)
    (case kk_Scan_init => k_is)
    (case c_Scan_step => k_is)
    (case kk_Scan_step => k_is)
    (case c_Scan_looked => k_is)
    (case kk_Scan_looked => k_is)
    (case c_Memory_init => k_is)
    (case kk_Memory_init => k_is)
    (case c_Work_init => k_is)
    (case kk_Work_init => k_is)
    (case c_Work_step => k_is)
    (case kk_Work_step => k_is)
    (case c_One_step => k_is)
    (case kk_One_step => k_is)
    (case c_Count_init => k_is)
    (case kk_Count_init => k_is)
    (case c_Count_step => k_is)
    (case kk_Count_step => k_is)
    (case c_Look_init => k_is)
    (case kk_Look_init => k_is)
    (case c_Look_step => k_is)
    (case kk_Look_step => k_is)
    (case c_Change_init => k_is)
    (case kk_Change_init => k_is)
    (case c_Change_step => k_is)
    (case kk_Change_step => k_is)
    (case c_Give_init => k_is)
    (case kk_Give_init => k_is)
    (case c_Give_step => k_is)
    (case kk_Give_step => k_is)
    (case c_Take_init => k_is)
    (case kk_Take_init => k_is)
    (case c_Take_step => k_is)
    (case kk_Take_step => k_is)
    (case c_Take_rank => k_is)
    (case kk_Take_rank => k_is)
    (case c_work_of => k_is)
    (case kk_work_of => k_is)
    (case c_Done_init => k_is)
    (case kk_Done_init => k_is)
    (case c_Hall_init => k_is)
    (case kk_Hall_init => k_is)
    (case c_Hall_need_hand => k_is)
    (case kk_Hall_need_hand => k_is)
    (case c_Hall_step => k_is)
    (case kk_Hall_step => k_is)
    (case c_Hall_weave => k_is)
    (case kk_Hall_weave => k_is)
    (case c_Hall_records => k_is)
    (case kk_Hall_records => k_is)
    (case c__law_cell => k_is)
    (case kk__law_cell => k_is)
    (case c__law_dice => k_is)
    (case kk__law_dice => k_is)
    (case c__law_off => k_is)
    (case kk__law_off => k_is)
    (case c__law_deed => k_is)
    (case kk__law_deed => k_is)
    (case c__law_plans => k_is)
    (case kk__law_plans => k_is)
    (case c__law_weave => k_is)
    (case kk__law_weave => k_is)
    (case c_law => k_is)
    (case kk_law => k_is)
    (case pg_Boxes => k_is)
    (case hd_Boxes => k_is)
    (case po_Boxes => k_is)
    (case sa_Boxes => k_is)
    (case kc_Boxes => k_is)
    (case no_Boxes_0 => k_is)
    (case no_Boxes_1 => k_is)
    (case no_Boxes_2 => k_is)
    (case mk_Boxes => k_is)
    (case if_Boxes => k_is)
    (case mf_Boxes_need => k_is)
    (case mf_Boxes_take => k_is)
    (case mf_Boxes_put => k_is)
    (case pg_Scan => k_is)
    (case hd_Scan => k_is)
    (case po_Scan => k_is)
    (case sa_Scan => k_is)
    (case kc_Scan => k_is)
    (case no_Scan_0 => k_is)
    (case no_Scan_1 => k_is)
    (case no_Scan_2 => k_is)
    (case no_Scan_3 => k_is)
    (case no_Scan_4 => k_is)
    (case no_Scan_5 => k_is)
    (case no_Scan_6 => k_is)
    (case no_Scan_7 => k_is)
    (case mk_Scan => k_is)
    (case if_Scan => k_is)
    (case mf_Scan_step => k_is)
    (case mf_Scan_looked => k_is)
    (case pg_Memory => k_is)
    (case hd_Memory => k_is)
    (case po_Memory => k_is)
    (case sa_Memory => k_is)
    (case kc_Memory => k_is)
    (case no_Memory_0 => k_is)
    (case no_Memory_1 => k_is)
    (case no_Memory_2 => k_is)
    (case no_Memory_3 => k_is)
    (case no_Memory_4 => k_is)
    (case mk_Memory => k_is)
    (case if_Memory => k_is)
    (case pg_Work => k_is)
    (case hd_Work => k_is)
    (case po_Work => k_is)
    (case sa_Work => k_is)
    (case kc_Work => k_is)
    (case no_Work_0 => k_is)
    (case no_Work_1 => k_is)
    (case no_Work_2 => k_is)
    (case no_Work_3 => k_is)
    (case no_Work_4 => k_is)
    (case no_Work_5 => k_is)
    (case no_Work_6 => k_is)
    (case no_Work_7 => k_is)
    (case no_Work_8 => k_is)
    (case no_Work_9 => k_is)
    (case mk_Work => k_is)
    (case if_Work => k_is)
    (case mf_Work_step => k_is)
    (case pg_One => k_is)
    (case hd_One => k_is)
    (case po_One => k_is)
    (case sa_One => k_is)
    (case kc_One => k_is)
    (case no_One_0 => k_is)
    (case no_One_1 => k_is)
    (case no_One_2 => k_is)
    (case no_One_3 => k_is)
    (case no_One_4 => k_is)
    (case no_One_5 => k_is)
    (case no_One_6 => k_is)
    (case no_One_7 => k_is)
    (case no_One_8 => k_is)
    (case no_One_9 => k_is)
    (case mk_One => k_is)
    (case if_One => k_is)
    (case mf_One_step => k_is)
    (case pg_Count => k_is)
    (case hd_Count => k_is)
    (case po_Count => k_is)
    (case sa_Count => k_is)
    (case kc_Count => k_is)
    (case no_Count_0 => k_is)
    (case no_Count_1 => k_is)
    (case no_Count_2 => k_is)
    (case no_Count_3 => k_is)
    (case no_Count_4 => k_is)
    (case no_Count_5 => k_is)
    (case no_Count_6 => k_is)
    (case no_Count_7 => k_is)
    (case no_Count_8 => k_is)
    (case no_Count_9 => k_is)
    (case no_Count_10 => k_is)
    (case mk_Count => k_is)
    (case if_Count => k_is)
    (case mf_Count_step => k_is)
    (case pg_Look => k_is)
    (case hd_Look => k_is)
    (case po_Look => k_is)
    (case sa_Look => k_is)
    (case kc_Look => k_is)
    (case no_Look_0 => k_is)
    (case no_Look_1 => k_is)
    (case no_Look_2 => k_is)
    (case no_Look_3 => k_is)
    (case no_Look_4 => k_is)
    (case no_Look_5 => k_is)
    (case no_Look_6 => k_is)
    (case no_Look_7 => k_is)
    (case no_Look_8 => k_is)
    (case no_Look_9 => k_is)
    (case no_Look_10 => k_is)
    (case mk_Look => k_is)
    (case if_Look => k_is)
    (case mf_Look_step => k_is)
    (case pg_Change => k_is)
    (case hd_Change => k_is)
    (case po_Change => k_is)
    (case sa_Change => k_is)
    (case kc_Change => k_is)
    (case no_Change_0 => k_is)
    (case no_Change_1 => k_is)
    (case no_Change_2 => k_is)
    (case no_Change_3 => k_is)
    (case no_Change_4 => k_is)
    (case no_Change_5 => k_is)
    (case no_Change_6 => k_is)
    (case no_Change_7 => k_is)
    (case no_Change_8 => k_is)
    (case no_Change_9 => k_is)
    (case no_Change_10 => k_is)
    (case mk_Change => k_is)
    (case if_Change => k_is)
    (case mf_Change_step => k_is)
    (case pg_Give => k_is)
    (case hd_Give => k_is)
    (case po_Give => k_is)
    (case sa_Give => k_is)
    (case kc_Give => k_is)
    (case no_Give_0 => k_is)
    (case no_Give_1 => k_is)
    (case no_Give_2 => k_is)
    (case no_Give_3 => k_is)
    (case no_Give_4 => k_is)
    (case no_Give_5 => k_is)
    (case no_Give_6 => k_is)
    (case no_Give_7 => k_is)
    (case no_Give_8 => k_is)
    (case no_Give_9 => k_is)
    (case no_Give_10 => k_is)
    (case mk_Give => k_is)
    (case if_Give => k_is)
    (case mf_Give_step => k_is)
    (case pg_Take => k_is)
    (case hd_Take => k_is)
    (case po_Take => k_is)
    (case sa_Take => k_is)
    (case kc_Take => k_is)
    (case no_Take_0 => k_is)
    (case no_Take_1 => k_is)
    (case no_Take_2 => k_is)
    (case no_Take_3 => k_is)
    (case no_Take_4 => k_is)
    (case no_Take_5 => k_is)
    (case no_Take_6 => k_is)
    (case no_Take_7 => k_is)
    (case no_Take_8 => k_is)
    (case no_Take_9 => k_is)
    (case no_Take_10 => k_is)
    (case no_Take_11 => k_is)
    (case mk_Take => k_is)
    (case if_Take => k_is)
    (case mf_Take_step => k_is)
    (case mf_Take_rank => k_is)
    (case pg_Done => k_is)
    (case hd_Done => k_is)
    (case po_Done => k_is)
    (case sa_Done => k_is)
    (case kc_Done => k_is)
    (case no_Done_0 => k_is)
    (case no_Done_1 => k_is)
    (case no_Done_2 => k_is)
    (case mk_Done => k_is)
    (case if_Done => k_is)
    (case pg_Hall => k_is)
    (case hd_Hall => k_is)
    (case po_Hall => k_is)
    (case sa_Hall => k_is)
    (case kc_Hall => k_is)
    (case no_Hall_0 => k_is)
    (case no_Hall_1 => k_is)
    (case no_Hall_2 => k_is)
    (case no_Hall_3 => k_is)
    (case no_Hall_4 => k_is)
    (case no_Hall_5 => k_is)
    (case no_Hall_6 => k_is)
    (case no_Hall_7 => k_is)
    (case no_Hall_8 => k_is)
    (case no_Hall_9 => k_is)
    (case mk_Hall => k_is)
    (case if_Hall => k_is)
    (case mf_Hall_need_hand => k_is)
    (case mf_Hall_step => k_is)
    (case mf_Hall_weave => k_is)
    (case mf_Hall_records => k_is)
    (case bg_rank => k_is)
    (case bt_rank => k_is)
    (case bf_rank => k_is)
    (case rd_Work => k_is)
    (case sg_Work => k_is)
    (case fc_Work_Work_init => k_is)
    (case k_HandsError => k_is)
    (case x_HandsError => k_exc)
    (case xb_HandsError => k_is)
    (case xt_HandsError => k_is)
    (case k_NoNumber => k_is)
    (case x_NoNumber => k_exc)
    (case xb_NoNumber => k_is)
    (case xt_NoNumber => k_is)
    (case k_NoBox => k_is)
    (case x_NoBox => k_exc)
    (case xb_NoBox => k_is)
    (case xt_NoBox => k_is)
    (case k_NoHand => k_is)
    (case x_NoHand => k_exc)
    (case xb_NoHand => k_is)
    (case xt_NoHand => k_is)
    (case k_NoDeed => k_is)
    (case x_NoDeed => k_exc)
    (case xb_NoDeed => k_is)
    (case xt_NoDeed => k_is)
    (case kl_PLACES => exact ⟨⟨_, _, rfl, rfl⟩, ⟨⟨_, _, rfl, rfl⟩, ⟨⟨_, _, rfl, rfl⟩, ⟨⟨_, _, rfl, rfl⟩, ⟨⟨_, _, rfl, rfl⟩, ⟨⟨_, _, rfl, rfl⟩, ⟨⟨_, _, rfl, rfl⟩, ⟨⟨_, _, rfl, rfl⟩, ⟨⟨_, _, rfl, rfl⟩, ⟨⟨_, _, rfl, rfl⟩, trivial⟩⟩⟩⟩⟩⟩⟩⟩⟩⟩)
    (case kd_PLACES_one => k_is)
    (case kd_PLACES_count => k_is)
    (case kd_PLACES_set => k_is)
    (case kd_PLACES_look => k_is)
    (case kd_PLACES_add => k_is)
    (case kd_PLACES_sum => k_is)
    (case kd_PLACES_raise => k_is)
    (case kd_PLACES_top => k_is)
    (case kd_PLACES_give => k_is)
    (case kd_PLACES_take => k_is)
    (case z_len => k_is)
    (case z_abs => k_is)
    (case z_sum => k_is)
    (case z_max => k_is)
    (case z_min => k_is)
    (case z_int => k_is)
    (case z_isinstance => k_is)
    (case z_list => k_is)
    (case z_tuple => k_is)
    (case z_range => k_is)
    (case z_reversed => k_is)
    (case z_enumerate => k_is)
    (case z_bool => k_is)
    (case z_ValueError => k_is)
