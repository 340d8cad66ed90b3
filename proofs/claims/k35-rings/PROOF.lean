import PyProof.Rows.All
import Wide.All
import OpenK.AllK
import Wide.FinOn
import HandS.ForMost
import HandS.More
import HandS.TupAny
import HandS.Style
import HandS.WideBits
import HandS.Zip
import HandS.Evl
import HandS.TupLe
import HandS.SortInts
import HandS.EndBits
import PySem.Challenge.RW_joinedheaps_k35_whole_rings
set_option Elab.async false
set_option linter.all false
set_option maxRecDepth 100000
set_option maxHeartbeats 4000000
set_option autoImplicit false
/-! J0: a calculus over data: slots and cells hold data (trees of ints, texts, tuples, lists) or objects that may change. No heap in its goals. -/
namespace J
open PySem PySem.Spec PyProof.Rows L2
abbrev Av := Addr → Prop
/-! ### data, by objects that are not among S -/
mutual
inductive Da (S : Av) (H : Hp) : V → PyData → Prop
  | non : Da S H .non .none
  | bl (b : Bool) : Da S H (.bl b) (.bool b)
  | int (i : Int) : Da S H (.int i) (.int i)
  | str (x : Str) : Da S H (.str x) (.str x)
  | lst {a : Addr} {xs : List V} {ds : List PyData} : H a = some (.lst xs) → ¬ S a → DaAll S H xs ds → Da S H (.ref a) (.list ds)
  | tup {a : Addr} {xs : List V} {ds : List PyData} : H a = some (.tup xs) → ¬ S a → DaAll S H xs ds → Da S H (.ref a) (.tuple ds)
inductive DaAll (S : Av) (H : Hp) : List V → List PyData → Prop
  | nil : DaAll S H [] []
  | cons {v : V} {vs : List V} {d : PyData} {ds : List PyData} : Da S H v d → DaAll S H vs ds → DaAll S H (v :: vs) (d :: ds)
end
/-- from a heap to a later one: all but M (what may change) is kept; S (what data avoid) and M grow by new addresses -/
structure Step (S M : Av) (H : Hp) (S' M' : Av) (H' : Hp) : Prop where
  le : ∀ a, M a → S a
  keep : ∀ b o, H b = some o → ¬ M b → H' b = some o
  grow : ∀ a, S' a → S a ∨ H a = none
  growM : ∀ a, M' a → M a ∨ H a = none
  sub : ∀ a, S a → S' a
section
variable {S S' S1 S2 M M' M1 M2 : Av} {H H' H1 H2 : Hp}
theorem Step.refl (h : ∀ a, M a → S a) : Step S M H S M H := ⟨h, fun _ _ e _ => e, fun _ h => .inl h, fun _ h => .inl h, fun _ h => h⟩
theorem Step.keepS (s : Step S M H S' M' H') : ∀ b o, H b = some o → ¬ S b → H' b = some o := fun b o e n => s.keep b o e fun z => n (s.le b z)
theorem Step.trans (a : Step S M H S1 M1 H1) (b : Step S1 M1 H1 S2 M2 H2) : Step S M H S2 M2 H2 where
  le := a.le
  keep := fun c o e n => by
    refine b.keep c o (a.keep c o e n) fun z => ?_
    rcases a.growM c z with z | z
    · exact n z
    · rw [z] at e; cases e
  grow := fun c h => by
    rcases b.grow c h with z | z
    · exact a.grow c z
    · by_cases hs : S c
      · exact .inl hs
      · cases q : H c with
        | none => exact .inr rfl
        | some o =>
          rw [a.keepS c o q hs] at z
          cases z
  growM := fun c h => by
    rcases b.growM c h with z | z
    · exact a.growM c z
    · by_cases hs : M c
      · exact .inl hs
      · cases q : H c with
        | none => exact .inr rfl
        | some o =>
          rw [a.keep c o q hs] at z
          cases z
  sub := fun c h => b.sub c (a.sub c h)
theorem some_ne {a : Addr} {u : HO} (h : H a = some u) : H a ≠ none := by rw [h]; intro z; cases z
mutual
theorem Da.mono (k : ∀ b o, H b = some o → ¬ S b → H' b = some o) (g : ∀ a, S' a → S a ∨ H a = none) : ∀ (d : PyData) (v : V), Da S H v d → Da S' H' v d
  | .none, _, h => by cases h; exact .non
  | .bool b, _, h => by cases h; exact .bl b
  | .int i, _, h => by cases h; exact .int i
  | .str x, _, h => by cases h; exact .str x
  | .list ds, _, h => by
    cases h with
    | lst r n hs => exact .lst (k _ _ r n) (fun z => (g _ z).elim n (some_ne r)) (DaAll.mono k g ds _ hs)
  | .tuple ds, _, h => by
    cases h with
    | tup r n hs => exact .tup (k _ _ r n) (fun z => (g _ z).elim n (some_ne r)) (DaAll.mono k g ds _ hs)
  | .dict _, _, h => by cases h
theorem DaAll.mono (k : ∀ b o, H b = some o → ¬ S b → H' b = some o) (g : ∀ a, S' a → S a ∨ H a = none) : ∀ (ds : List PyData) (vs : List V), DaAll S H vs ds → DaAll S' H' vs ds
  | [], _, h => by cases h; exact .nil
  | d :: ds, _, h => by
    cases h with
    | cons h1 h2 => exact .cons (Da.mono k g d _ h1) (DaAll.mono k g ds _ h2)
end
theorem Da.step {v : V} {d : PyData} (h : Da S H v d) (s : Step S M H S' M' H') : Da S' H' v d := Da.mono s.keepS s.grow d v h
/-- fewer to avoid -/
theorem Da.less {v : V} {d : PyData} (h : Da S H v d) (s : ∀ a, S' a → S a) : Da S' H v d := Da.mono (fun _ _ e _ => e) (fun a z => .inl (s a z)) d v h
theorem DaAll.paired : ∀ {vs : List V} {ds : List PyData}, DaAll S H vs ds → Paired (Da S H) vs ds
  | _, _, .nil => .nil
  | _, _, .cons h t => .cons h (DaAll.paired t)
theorem DaAll.of : ∀ {vs : List V} {ds : List PyData}, Paired (Da S H) vs ds → DaAll S H vs ds
  | _, _, .nil => .nil
  | _, _, .cons h t => .cons h (DaAll.of t)
end
/-! ### slots and cells -/
/-- a datum, or the object at a (which may change) -/
inductive SD where
  | im (d : PyData)
  | mt (a : Addr)
  /-- the script: P tells whether an address is an object of the written part that holds it -/
  | sc (ns : List Int) (P : Addr → Prop)
abbrev SD.i (n : Int) : SD := .im (.int n)
abbrev SD.b (c : Bool) : SD := .im (.bool c)
def SV (S : Av) (H : Hp) (v : V) : SD → Prop
  | .im d => Da S H v d
  | .mt a => v = .ref a
  | .sc ns P => ∃ a, v = .ref a ∧ (P a ∨ (¬ S a ∧ ∃ o, H a = some (.frz o (.lst (ns.map V.int)))))
inductive Cell where
  | lst (xs : List SD)
  | dic (kvs : List (List Key × SD))
  | ins (C dx : Addr) (fs : List (Str × SD))
abbrev Store := List (Addr × Cell)
abbrev Ren := List (Option SD)
abbrev PKv {κ : Type} (S : Av) (H : Hp) : List (κ × V) → List (κ × SD) → Prop := Paired fun (p : κ × V) (q : κ × SD) => p.1 = q.1 ∧ SV S H p.2 q.2
abbrev SVs (S : Av) (H : Hp) : List V → List SD → Prop := Paired (SV S H)
def CellOk (S : Av) (H : Hp) (a : Addr) : Cell → Prop
  | .lst xs => ∃ vs, H a = some (.lst vs) ∧ SVs S H vs xs
  | .dic kvs => ∃ ws, H a = some (.dT ws) ∧ PKv S H ws kvs
  | .ins C dx fs => ∃ ws, H a = some (.ins C dx ws) ∧ PKv S H ws fs
def dm (μ : Store) : Av := fun a => a ∈ μ.map (·.1)
section
variable {S S' S1 S2 M M' : Av} {H H' H1 H2 : Hp} {v : V} {x : SD}
theorem SV.step (h : SV S H v x) (s : Step S M H S' M' H') : SV S' H' v x := by
  cases x with
  | im d => exact Da.step h s
  | mt a => exact h
  | sc ns P =>
    obtain ⟨a, e, q⟩ := h
    refine ⟨a, e, q.imp id fun ⟨n, o, q⟩ => ⟨fun z => ?_, o, s.keepS _ _ q n⟩⟩
    rcases s.grow a z with z | z
    · exact n z
    · rw [q] at z; cases z
theorem SV.less (h : SV S H v x) (s : ∀ a, S' a → S a) : SV S' H v x := by
  cases x with
  | im d => exact Da.less h s
  | mt a => exact h
  | sc ns P =>
    obtain ⟨a, e, q⟩ := h
    exact ⟨a, e, q.imp id fun ⟨n, o, q⟩ => ⟨fun z => n (s a z), o, q⟩⟩
theorem SVs.step {vs : List V} {xs : List SD} (h : SVs S H vs xs) (s : Step S M H S' M' H') : SVs S' H' vs xs := Paired.mapP h fun _ _ z => z.step s
theorem SVs.less {vs : List V} {xs : List SD} (h : SVs S H vs xs) (s : ∀ a, S' a → S a) : SVs S' H vs xs := Paired.mapP h fun _ _ z => z.less s
theorem PKv.step {κ : Type} {ws : List (κ × V)} {fs : List (κ × SD)} (h : PKv S H ws fs) (s : Step S M H S' M' H') : PKv S' H' ws fs := Paired.mapP h fun _ _ z => ⟨z.1, z.2.step s⟩
theorem PKv.less {κ : Type} {ws : List (κ × V)} {fs : List (κ × SD)} (h : PKv S H ws fs) (s : ∀ a, S' a → S a) : PKv S' H ws fs := Paired.mapP h fun _ _ z => ⟨z.1, z.2.less s⟩
/-- a cell stays: its object is kept -/
theorem CellOk.step {a : Addr} {c : Cell} (h : CellOk S H a c) (s : Step S M H S' M' H') (k : ∀ o, H a = some o → H' a = some o) : CellOk S' H' a c := by
  cases c with
  | lst xs => obtain ⟨vs, e, p⟩ := h; exact ⟨vs, k _ e, SVs.step p s⟩
  | dic kvs => obtain ⟨vs, e, p⟩ := h; exact ⟨vs, k _ e, PKv.step p s⟩
  | ins C dx fs => obtain ⟨vs, e, p⟩ := h; exact ⟨vs, k _ e, PKv.step p s⟩
theorem CellOk.less {a : Addr} {c : Cell} (h : CellOk S H a c) (s : ∀ a, S' a → S a) : CellOk S' H a c := by
  cases c with
  | lst xs => obtain ⟨vs, e, p⟩ := h; exact ⟨vs, e, SVs.less p s⟩
  | dic kvs => obtain ⟨vs, e, p⟩ := h; exact ⟨vs, e, PKv.less p s⟩
  | ins C dx fs => obtain ⟨vs, e, p⟩ := h; exact ⟨vs, e, PKv.less p s⟩
theorem CellOk.some {a : Addr} {c : Cell} (h : CellOk S H a c) : H a ≠ none := by
  cases c with
  | lst xs => obtain ⟨vs, e, p⟩ := h; rw [e]; intro z; cases z
  | dic kvs => obtain ⟨vs, e, p⟩ := h; rw [e]; intro z; cases z
  | ins C dx fs => obtain ⟨vs, e, p⟩ := h; rw [e]; intro z; cases z
end
/-- the cells stand -/
structure Core (S : Av) (μ : Store) (H : Hp) : Prop where
  cells : ∀ p ∈ μ, CellOk S H p.1 p.2
  dom : ∀ p ∈ μ, S p.1
  nd : (μ.map (·.1)).Nodup
  live : ∀ a, S a → H a ≠ none
structure Em (S : Av) (H : Hp) (ρ : Ren) (σ : L2.St) : Prop where
  len : σ.length = ρ.length
  at_ : ∀ (i : Nat) (x : SD), ρ[i]? = some (some x) → ∃ v : V, σ[i]? = some (some v) ∧ SV S H v x
section
variable {S S' S1 S2 M M' : Av} {H H' H1 H2 : Hp} {v : V} {x : SD} {ρ : Ren} {μ μ' μ1 μ2 : Store} {σ : L2.St}
theorem Em.step (e : Em S H ρ σ) (s : Step S M H S' M' H') : Em S' H' ρ σ := ⟨e.len, fun i x h => let ⟨v, a, b⟩ := e.at_ i x h; ⟨v, a, b.step s⟩⟩
theorem Em.less (e : Em S H ρ σ) (s : ∀ a, S' a → S a) : Em S' H ρ σ := ⟨e.len, fun i x h => let ⟨v, a, b⟩ := e.at_ i x h; ⟨v, a, b.less s⟩⟩
theorem Em.set (e : Em S H ρ σ) (i : Nat) (h : SV S H v x) : Em S H (ρ.set i (some x)) (σ.set i (some v)) := by
  refine ⟨by rw [List.length_set, List.length_set, e.len], fun j y hy => ?_⟩
  by_cases hj : i = j
  · subst hj
    by_cases hl : i < ρ.length
    · rw [List.getElem?_set_self hl] at hy
      cases hy
      exact ⟨v, List.getElem?_set_self (by rw [e.len]; exact hl), h⟩
    · rw [List.getElem?_eq_none (by rw [List.length_set]; omega)] at hy
      cases hy
  · rw [List.getElem?_set_ne hj] at hy ⊢
    exact e.at_ j y hy
theorem Em.unset (e : Em S H ρ σ) (i : Nat) (u : Option V) : Em S H (ρ.set i none) (σ.set i u) := by
  refine ⟨by rw [List.length_set, List.length_set, e.len], fun j y hy => ?_⟩
  by_cases hj : i = j
  · subst hj
    by_cases hl : i < ρ.length
    · rw [List.getElem?_set_self hl] at hy
      cases hy
    · rw [List.getElem?_eq_none (by rw [List.length_set]; omega)] at hy
      cases hy
  · rw [List.getElem?_set_ne hj] at hy ⊢
    exact e.at_ j y hy
/-- forgetting slots -/
theorem Em.weak {ρ' : Ren} (e : Em S H ρ σ) (hl : ρ'.length = ρ.length) (w : ∀ (i : Nat) (x : SD), ρ'[i]? = some (some x) → ρ[i]? = some (some x)) : Em S H ρ' σ :=
  ⟨by rw [e.len, hl], fun i x h => e.at_ i x (w i x h)⟩
theorem Core.le (c : Core S μ H) : ∀ a, dm μ a → S a := fun a h => by
  obtain ⟨p, hp, e⟩ := List.mem_map.mp h
  rw [← e]
  exact c.dom p hp
theorem Core.refl (c : Core S μ H) : Step S (dm μ) H S (dm μ) H := Step.refl c.le
theorem Core.fresh (c : Core S μ H) {p : Addr} (h : H p = none) : ¬ S p := fun z => c.live p z h
theorem Core.ex_step (c : Core S μ H) (k : ∀ b o, H b = some o → H' b = some o) : Step S (dm μ) H S (dm μ) H' := ⟨c.le, fun b o e _ => k b o e, fun a z => .inl z, fun a z => .inl z, fun a z => z⟩
/-- only new objects -/
theorem Core.ex (c : Core S μ H) (k : ∀ b o, H b = some o → H' b = some o) : Core S μ H' := by
  refine ⟨fun p hp => (c.cells p hp).step (c.ex_step k) fun o e => k _ o e, c.dom, c.nd, fun a ha z => ?_⟩
  cases q : H a with
  | none => exact c.live a ha q
  | some o => rw [k a o q] at z; cases z
theorem ex_new {p : Addr} {o : HO} (h : H p = none) : ∀ b u, H b = some u → upd H p o b = some u := fun b u e => by rw [upd_ne (ne_of_none e h)]; exact e
theorem Core.perm (c : Core S μ H) (p : μ'.Perm μ) : Core S μ' H :=
  ⟨fun q h => c.cells q (p.mem_iff.mp h), fun q h => c.dom q (p.mem_iff.mp h), ((p.map (·.1)).nodup_iff).mpr c.nd, c.live⟩
theorem Core.drop (c : Core S μ H) (p : μ'.Sublist μ) : Core S μ' H :=
  ⟨fun q h => c.cells q (p.mem h), fun q h => c.dom q (p.mem h), (p.map (·.1)).nodup c.nd, c.live⟩
theorem dm_perm (p : μ'.Perm μ) (a : Addr) : dm μ' a ↔ dm μ a := (p.map (·.1)).mem_iff
/-- a new cell -/
abbrev plus (S : Av) (p : Addr) : Av := fun a => S a ∨ a = p
theorem dm_cons {p : Addr} {c : Cell} {a : Addr} : dm ((p, c) :: μ) a ↔ a = p ∨ dm μ a := List.mem_cons
theorem Core.new_step (c : Core S μ H) {p : Addr} {o : HO} {cl : Cell} (h : H p = none) : Step S (dm μ) H (plus S p) (dm ((p, cl) :: μ)) (upd H p o) :=
  ⟨c.le, fun b u e _ => ex_new h b u e, fun a z => z.elim .inl fun z => .inr (by rw [z]; exact h), fun a z => (dm_cons.mp z).elim (fun z => .inr (by rw [z]; exact h)) .inl, fun a z => .inl z⟩
theorem Core.new (c : Core S μ H) {p : Addr} {o : HO} {cl : Cell} (h : H p = none) (hc : CellOk (plus S p) (upd H p o) p cl) : Core (plus S p) ((p, cl) :: μ) (upd H p o) := by
  have st := c.new_step (o := o) (cl := cl) h
  refine ⟨fun q hq => ?_, fun q hq => ?_, ?_, fun a ha => ?_⟩
  · rcases List.mem_cons.mp hq with e | hq
    · rw [e]; exact hc
    · exact (c.cells q hq).step st fun u e => ex_new h _ _ e
  · rcases List.mem_cons.mp hq with e | hq
    · rw [e]; exact .inr rfl
    · exact .inl (c.dom q hq)
  · rw [List.map_cons, List.nodup_cons]
    refine ⟨fun hm => ?_, c.nd⟩
    obtain ⟨q, hq, e⟩ := List.mem_map.mp hm
    exact (c.cells q hq).some (by rw [e]; exact h)
  · by_cases e : a = p
    · rw [e, upd_same]; intro z; cases z
    · rw [upd_ne e]
      rcases ha with ha | ha
      · exact c.live a ha
      · exact absurd ha e
/-- a cell changes -/
theorem set_dm {p : Addr} {cl cl' : Cell} {j : Nat} (hj : μ[j]? = some (p, cl)) : (μ.set j (p, cl')).map (·.1) = μ.map (·.1) := by
  have hjl : j < μ.length := (List.getElem?_eq_some_iff.mp hj).1
  rw [List.map_set]
  have e : (μ.map (·.1))[j]? = some p := by rw [List.getElem?_map, hj]; rfl
  apply List.ext_getElem?
  intro i
  by_cases hi : j = i
  · subst hi
    rw [List.getElem?_set_self (by simpa using hjl), e]
  · rw [List.getElem?_set_ne hi]
theorem Core.write_step (c : Core S μ H) {p : Addr} {o : HO} {cl cl' : Cell} {j : Nat} (hj : μ[j]? = some (p, cl)) : Step S (dm μ) H S (dm (μ.set j (p, cl'))) (upd H p o) := by
  have hp : dm μ p := List.mem_map.mpr ⟨_, List.mem_of_getElem? hj, rfl⟩
  refine ⟨c.le, fun b u e n => ?_, fun a z => .inl z, fun a z => ?_, fun a z => z⟩
  · rw [upd_ne (show b ≠ p from fun z => n (by rw [z]; exact hp))]; exact e
  · unfold dm at z
    rw [set_dm hj] at z
    exact .inl z
theorem Core.write (c : Core S μ H) {p : Addr} {o : HO} {cl cl' : Cell} {j : Nat} (hj : μ[j]? = some (p, cl)) (hc : CellOk S (upd H p o) p cl') : Core S (μ.set j (p, cl')) (upd H p o) := by
  have hm : (p, cl) ∈ μ := List.mem_of_getElem? hj
  have sp : S p := c.dom _ hm
  have hjl : j < μ.length := (List.getElem?_eq_some_iff.mp hj).1
  have st := c.write_step (o := o) (cl' := cl') hj
  have other : ∀ q ∈ μ.set j (p, cl'), q = (p, cl') ∨ (q ∈ μ ∧ q.1 ≠ p) := fun q hq => by
    obtain ⟨i, hi⟩ := List.mem_iff_getElem?.mp hq
    by_cases hij : j = i
    · subst hij
      rw [List.getElem?_set_self hjl] at hi
      exact .inl (Option.some.inj hi).symm
    · rw [List.getElem?_set_ne hij] at hi
      refine .inr ⟨List.mem_of_getElem? hi, fun e => hij ?_⟩
      have e1 : (μ.map (·.1))[i]? = some p := by rw [List.getElem?_map, hi]; exact congrArg some e
      have e2 : (μ.map (·.1))[j]? = some p := by rw [List.getElem?_map, hj]; rfl
      exact nd_ix c.nd e2 e1
  refine ⟨fun q hq => ?_, fun q hq => ?_, by rw [set_dm hj]; exact c.nd, fun a ha => ?_⟩
  · rcases other q hq with e | ⟨h1, h2⟩
    · rw [e]; exact hc
    · exact (c.cells q h1).step st fun u e => by rw [upd_ne h2]; exact e
  · rcases other q hq with e | ⟨h1, h2⟩
    · rw [e]; exact sp
    · exact c.dom q h1
  · by_cases e : a = p
    · rw [e, upd_same]; intro z; cases z
    · rw [upd_ne e]; exact c.live a ha
/-- what stands beside what was used -/
theorem Core.frame {μc rest : Store} (c : Core S (μc ++ rest) H) (c' : Core S' μ' H') (s : Step S (dm μc) H S' (dm μ') H') : Core S' (μ' ++ rest) H' ∧ Step S (dm (μc ++ rest)) H S' (dm (μ' ++ rest)) H' := by
  have nd := c.nd
  rw [List.map_append, List.nodup_append] at nd
  have apart : ∀ p ∈ rest, ¬ dm μc p.1 := fun p hp z => nd.2.2 _ z _ (List.mem_map.mpr ⟨p, hp, rfl⟩) rfl
  refine ⟨⟨fun p hp => ?_, fun p hp => ?_, ?_, c'.live⟩, ⟨c.le, fun b o e n => s.keep b o e fun z => n ?_, s.grow, fun a z => ?_, s.sub⟩⟩
  · rcases List.mem_append.mp hp with hp | hp
    · exact c'.cells p hp
    · exact (c.cells p (List.mem_append_right _ hp)).step s fun o e => s.keep _ _ e (apart p hp)
  · rcases List.mem_append.mp hp with hp | hp
    · exact c'.dom p hp
    · exact s.sub _ (c.dom p (List.mem_append_right _ hp))
  · rw [List.map_append, List.nodup_append]
    refine ⟨c'.nd, nd.2.1, fun a ha b hb e => ?_⟩
    subst e
    rcases s.growM a ha with z | z
    · exact nd.2.2 a z a hb rfl
    · obtain ⟨p, hp, e⟩ := List.mem_map.mp hb
      exact (c.cells p (List.mem_append_right _ hp)).some (by rw [e]; exact z)
  · unfold dm at z ⊢
    rw [List.map_append]
    exact List.mem_append_left _ z
  · unfold dm at z
    rw [List.map_append] at z
    rcases List.mem_append.mp z with z | z
    · refine (s.growM a z).imp (fun z => ?_) id
      unfold dm at z ⊢
      rw [List.map_append]
      exact List.mem_append_left _ z
    · refine .inl ?_
      unfold dm
      rw [List.map_append]
      exact List.mem_append_right _ z
end
/-! ### what an expression comes to -/
/-- behind it: a value that stands for r, the cells μ', of which k holds -/
def Post (S : Av) (μ : Store) (H : Hp) (k : SD → Store → Prop) (Q : VK) : Prop :=
  ∀ r μ' v S' H', k r μ' → Core S' μ' H' → Step S (dm μ) H S' (dm μ') H' → SV S' H' v r → Q v H'
def PostB (S : Av) (μ : Store) (H : Hp) (k : Bool → Store → Prop) (Q : Bool → Hp → Prop) : Prop :=
  ∀ r μ' S' H', k r μ' → Core S' μ' H' → Step S (dm μ) H S' (dm μ') H' → Q r H'
def PostA (S : Av) (μ : Store) (H : Hp) (k : List SD → Store → Prop) (Q : List V → Hp → Prop) : Prop :=
  ∀ rs μ' vs S' H', k rs μ' → Core S' μ' H' → Step S (dm μ) H S' (dm μ') H' → SVs S' H' vs rs → Q vs H'
def Ev (te : TE) (ρ : Ren) (μ : Store) (k : SD → Store → Prop) : Prop :=
  ∀ S σ H, Core S μ H → Em S H ρ σ → ∀ Q : VK, Post S μ H k Q → te σ H Q
def EvT (tt : TT) (ρ : Ren) (μ : Store) (k : Bool → Store → Prop) : Prop :=
  ∀ S σ H, Core S μ H → Em S H ρ σ → ∀ Q : Bool → Hp → Prop, PostB S μ H k Q → tt σ H Q
def EvA (ta : TA) (ρ : Ren) (μ : Store) (k : List SD → Store → Prop) : Prop :=
  ∀ S σ H, Core S μ H → Em S H ρ σ → ∀ Q : List V → Hp → Prop, PostA S μ H k Q → ta σ H Q
def EvO (to : TO) (ρ : Ren) (μ : Store) (k : Option Int → Store → Prop) : Prop :=
  ∀ S σ H, Core S μ H → Em S H ρ σ → ∀ Q : Option Int → Hp → Prop, (∀ r μ' S' H', k r μ' → Core S' μ' H' → Step S (dm μ) H S' (dm μ') H' → Q r H') → to σ H Q
/-- operations by values -/
def Rv (r : R2) (x y : SD) (μ : Store) (k : SD → Store → Prop) : Prop :=
  ∀ S H vx vy, Core S μ H → SV S H vx x → SV S H vy y → ∀ Q : VK, Post S μ H k Q → r vx vy H Q
def Ru (r : V → Hp → VK → Prop) (x : SD) (μ : Store) (k : SD → Store → Prop) : Prop :=
  ∀ S H vx, Core S μ H → SV S H vx x → ∀ Q : VK, Post S μ H k Q → r vx H Q
def Rc (r : List V → Hp → VK → Prop) (xs : List SD) (μ : Store) (k : SD → Store → Prop) : Prop :=
  ∀ S H vs, Core S μ H → SVs S H vs xs → ∀ Q : VK, Post S μ H k Q → r vs H Q
def Rm (r : V → List V → Hp → VK → Prop) (x : SD) (xs : List SD) (μ : Store) (k : SD → Store → Prop) : Prop :=
  ∀ S H vx vs, Core S μ H → SV S H vx x → SVs S H vs xs → ∀ Q : VK, Post S μ H k Q → r vx vs H Q
def Rs (r : V → Option Int → Option Int → Hp → VK → Prop) (x : SD) (lo hi : Option Int) (μ : Store) (k : SD → Store → Prop) : Prop :=
  ∀ S H vx, Core S μ H → SV S H vx x → ∀ Q : VK, Post S μ H k Q → r vx lo hi H Q
def Rset (r : V → V → V → Hp → (Hp → Prop) → Prop) (o i x : SD) (μ : Store) (k : Store → Prop) : Prop :=
  ∀ S H vo vi vx, Core S μ H → SV S H vo o → SV S H vi i → SV S H vx x → ∀ Q : Hp → Prop, (∀ μ' S' H', k μ' → Core S' μ' H' → Step S (dm μ) H S' (dm μ') H' → Q H') → r vo vi vx H Q
section
variable {S S1 : Av} {H H1 : Hp} {k k' : SD → Store → Prop} {Q : VK} {ρ : Ren} {μ μ1 : Store} {ta tb te : TE} {r : R2}
theorem Post.after (q : Post S μ H k Q) (s : Step S (dm μ) H S1 (dm μ1) H1) : Post S1 μ1 H1 k Q := fun r μ' v S' H' a b c d => q r μ' v S' H' a b (s.trans c) d
theorem PostB.after {k : Bool → Store → Prop} {Q : Bool → Hp → Prop} (q : PostB S μ H k Q) (s : Step S (dm μ) H S1 (dm μ1) H1) : PostB S1 μ1 H1 k Q := fun r μ' S' H' a b c => q r μ' S' H' a b (s.trans c)
theorem PostA.after {k : List SD → Store → Prop} {Q : List V → Hp → Prop} (q : PostA S μ H k Q) (s : Step S (dm μ) H S1 (dm μ1) H1) : PostA S1 μ1 H1 k Q := fun r μ' v S' H' a b c d => q r μ' v S' H' a b (s.trans c) d
/-- a value in the heap as it stands -/
theorem Post.here (q : Post S μ H k Q) {x : SD} {v : V} (h : k x μ) (c : Core S μ H) (s : SV S H v x) : Q v H := q x μ v S H h c c.refl s
theorem Post.mono (q : Post S μ H k Q) (h : ∀ r μ, k' r μ → k r μ) : Post S μ H k' Q := fun r μ' v S' H' a b c d => q r μ' v S' H' (h _ _ a) b c d
theorem Ev.mono (e : Ev te ρ μ k) (h : ∀ r μ, k r μ → k' r μ) : Ev te ρ μ k' := fun S σ H c en Q q => e S σ H c en Q (q.mono h)
theorem ev_var {i : Nat} {x : SD} (h : ρ[i]? = some (some x)) (q : k x μ) : Ev (tVar i) ρ μ k := fun S σ H c e Q p => by
  obtain ⟨v, h1, h2⟩ := e.at_ i x h
  exact ⟨v, h1, p.here q c h2⟩
theorem ev_int {n : Int} (q : k (.im (.int n)) μ) : Ev (tC (.int n)) ρ μ k := fun S σ H c e Q p => p.here q c (Da.int n)
theorem ev_bl {n : Bool} (q : k (.im (.bool n)) μ) : Ev (tC (.bl n)) ρ μ k := fun S σ H c e Q p => p.here q c (Da.bl n)
theorem ev_str {n : Str} (q : k (.im (.str n)) μ) : Ev (tC (.str n)) ρ μ k := fun S σ H c e Q p => p.here q c (Da.str n)
theorem ev_non (q : k (.im .none) μ) : Ev (tC .non) ρ μ k := fun S σ H c e Q p => p.here q c Da.non
theorem ev_op (h : Ev ta ρ μ fun x μ1 => Ev tb ρ μ1 fun y μ2 => Rv r x y μ2 k) : Ev (tOp r ta tb) ρ μ k := fun S σ H c e Q p =>
  h S σ H c e _ fun x μ1 v S1 H1 h1 c1 s1 sv1 => h1 S1 σ H1 c1 (e.step s1) _ fun y μ2 u S2 H2 h2 c2 s2 sv2 =>
    h2 S2 H2 v u c2 (sv1.step s2) sv2 Q (p.after (s1.trans s2))
theorem ev_un {r : V → Hp → VK → Prop} (h : Ev ta ρ μ fun x μ1 => Ru r x μ1 k) : Ev (tUn r ta) ρ μ k := fun S σ H c e Q p =>
  h S σ H c e _ fun x μ1 v S1 H1 h1 c1 s1 sv1 => h1 S1 H1 v c1 sv1 Q (p.after s1)
theorem eva_nil {k : List SD → Store → Prop} (q : k [] μ) : EvA tNil ρ μ k := fun S σ H c e Q p => p [] μ [] S H q c c.refl .nil
theorem eva_cons {tr : TA} {k : List SD → Store → Prop} (h : Ev te ρ μ fun x μ1 => EvA tr ρ μ1 fun xs μ2 => k (x :: xs) μ2) : EvA (tCons te tr) ρ μ k := fun S σ H c e Q p =>
  h S σ H c e _ fun x μ1 v S1 H1 h1 c1 s1 sv1 => h1 S1 σ H1 c1 (e.step s1) _ fun xs μ2 vs S2 H2 h2 c2 s2 sv2 =>
    p (x :: xs) μ2 (v :: vs) S2 H2 h2 c2 (s1.trans s2) (.cons (sv1.step s2) sv2)
theorem ev_cb {r : List V → Hp → VK → Prop} {ta : TA} (h : EvA ta ρ μ fun xs μ1 => Rc r xs μ1 k) : Ev (tCB r ta) ρ μ k := fun S σ H c e Q p =>
  h S σ H c e _ fun xs μ1 vs S1 H1 h1 c1 s1 sv1 => h1 S1 H1 vs c1 sv1 Q (p.after s1)
theorem ev_if {tt : TT} (h : EvT tt ρ μ fun b μ1 => (b = true → Ev ta ρ μ1 k) ∧ (b = false → Ev tb ρ μ1 k)) : Ev (tIf tt ta tb) ρ μ k := fun S σ H c e Q p =>
  h S σ H c e _ fun b μ1 S1 H1 h1 c1 s1 => by
    cases b with
    | true => exact h1.1 rfl S1 σ H1 c1 (e.step s1) Q (p.after s1)
    | false => exact h1.2 rfl S1 σ H1 c1 (e.step s1) Q (p.after s1)
theorem ims_da {vs : List V} {ds : List PyData} (h : SVs S H vs (ds.map .im)) : DaAll S H vs ds := by
  induction ds generalizing vs with
  | nil => cases h; exact .nil
  | cons d ds ih =>
    cases h with
    | cons a b => exact .cons a (ih b)
theorem da_ims : ∀ {vs : List V} {ds : List PyData}, DaAll S H vs ds → SVs S H vs (ds.map .im)
  | _, _, .nil => .nil
  | _, _, .cons a b => .cons a (da_ims b)
/-- a new object of data -/
theorem post_tup {xs : List V} {ds : List PyData} {p : Addr} (q : Post S μ H k Q) (c : Core S μ H) (hx : DaAll S H xs ds) (hp : H p = none) (h : k (.im (.tuple ds)) μ) : Q (.ref p) (upd H p (.tup xs)) := by
  have st := c.ex_step (ex_new (o := .tup xs) hp)
  exact q _ μ _ S _ h (c.ex (ex_new hp)) st (Da.tup upd_same (c.fresh hp) (DaAll.mono st.keepS st.grow _ _ hx))
theorem post_lst {xs : List V} {ds : List PyData} {p : Addr} (q : Post S μ H k Q) (c : Core S μ H) (hx : DaAll S H xs ds) (hp : H p = none) (h : k (.im (.list ds)) μ) : Q (.ref p) (upd H p (.lst xs)) := by
  have st := c.ex_step (ex_new (o := .lst xs) hp)
  exact q _ μ _ S _ h (c.ex (ex_new hp)) st (Da.lst upd_same (c.fresh hp) (DaAll.mono st.keepS st.grow _ _ hx))
/-- a new list that may change -/
theorem post_cell {xs : List V} {ys : List SD} {p : Addr} (q : Post S μ H k Q) (c : Core S μ H) (hx : SVs S H xs ys) (hp : H p = none) (h : ∀ p, k (.mt p) ((p, .lst ys) :: μ)) : Q (.ref p) (upd H p (.lst xs)) := by
  have st := c.new_step (o := .lst xs) (cl := .lst ys) hp
  exact q _ _ _ (plus S p) _ (h p) (c.new hp ⟨xs, upd_same, hx.step st⟩) st rfl
theorem svs_len {vs : List V} {xs : List SD} (h : SVs S H vs xs) : vs.length = xs.length := Paired.length h
theorem DaAll.len {vs : List V} {ds : List PyData} (h : DaAll S H vs ds) : vs.length = ds.length := by
  induction ds generalizing vs with
  | nil => cases h; rfl
  | cons d ds ih => cases h with | cons a b => rw [List.length_cons, List.length_cons, ih b]
/-- (e, ..) of data -/
theorem ev_tup {ta : TA} (h : EvA ta ρ μ fun xs μ1 => ∃ ds, xs = ds.map .im ∧ ds.length ≤ sizeLine ∧ k (.im (.tuple ds)) μ1) : Ev (tTup ta) ρ μ k := fun S σ H c e Q p =>
  h S σ H c e _ fun xs μ1 vs S1 H1 h1 c1 s1 sv1 => by
    obtain ⟨ds, rfl, hl, hk⟩ := h1
    have da := ims_da sv1
    exact ⟨by rw [da.len]; exact hl, fun a ha => post_tup (p.after s1) c1 da ha hk⟩
theorem ev_lst {ta : TA} (h : EvA ta ρ μ fun xs μ1 => ∃ ds, xs = ds.map .im ∧ ds.length ≤ sizeLine ∧ k (.im (.list ds)) μ1) : Ev (tLst ta) ρ μ k := fun S σ H c e Q p =>
  h S σ H c e _ fun xs μ1 vs S1 H1 h1 c1 s1 sv1 => by
    obtain ⟨ds, rfl, hl, hk⟩ := h1
    have da := ims_da sv1
    exact ⟨by rw [da.len]; exact hl, fun a ha => post_lst (p.after s1) c1 da ha hk⟩
/-- [e, ..] that will change -/
theorem ev_lstM {ta : TA} (h : EvA ta ρ μ fun xs μ1 => xs.length ≤ sizeLine ∧ ∀ p, k (.mt p) ((p, .lst xs) :: μ1)) : Ev (tLst ta) ρ μ k := fun S σ H c e Q p =>
  h S σ H c e _ fun xs μ1 vs S1 H1 h1 c1 s1 sv1 => ⟨by rw [svs_len sv1]; exact h1.1, fun a ha => post_cell (p.after s1) c1 sv1 ha h1.2⟩
end
end J
/-! J1: operators, subscripts, slices, tests over J0. -/
namespace J
open PySem PySem.Spec PyProof.Rows L2
/-! ### lists and tuples by values -/
/-- x is a list of the items xs -/
def LV (μ : Store) (x : SD) (xs : List SD) : Prop := (∃ ds, x = .im (.list ds) ∧ xs = ds.map .im) ∨ ∃ a, x = .mt a ∧ (a, Cell.lst xs) ∈ μ
theorem LV.d {μ : Store} (ds : List PyData) : LV μ (.im (.list ds)) (ds.map .im) := .inl ⟨ds, rfl, rfl⟩
theorem LV.c {μ : Store} {a : Addr} {xs : List SD} (h : (a, Cell.lst xs) ∈ μ) : LV μ (.mt a) xs := .inr ⟨a, rfl, h⟩
/-- x is a list or tuple of the items xs -/
def QV (μ : Store) (x : SD) (xs : List SD) : Prop := LV μ x xs ∨ ∃ ds, x = .im (.tuple ds) ∧ xs = ds.map .im
theorem QV.l {μ : Store} (ds : List PyData) : QV μ (.im (.list ds)) (ds.map .im) := .inl (.d ds)
theorem QV.t {μ : Store} (ds : List PyData) : QV μ (.im (.tuple ds)) (ds.map .im) := .inr ⟨ds, rfl, rfl⟩
theorem QV.c {μ : Store} {a : Addr} {xs : List SD} (h : (a, Cell.lst xs) ∈ μ) : QV μ (.mt a) xs := .inl (.c h)
/-- x reads as the datum d -/
def DV (μ : Store) (x : SD) (d : PyData) : Prop := x = .im d ∨ ∃ a ds, x = .mt a ∧ (a, Cell.lst (ds.map .im)) ∈ μ ∧ d = .list ds
theorem DV.d {μ : Store} (d : PyData) : DV μ (.im d) d := .inl rfl
theorem DV.c {μ : Store} {a : Addr} {ds : List PyData} (h : (a, Cell.lst (ds.map .im)) ∈ μ) : DV μ (.mt a) (.list ds) := .inr ⟨a, ds, rfl, h, rfl⟩
/-- a new list: a datum, or a cell -/
def NewL (k : SD → Store → Prop) (μ : Store) (xs : List SD) : Prop := (∃ ds, xs = ds.map SD.im ∧ k (.im (.list ds)) μ) ∨ ∀ p, k (.mt p) ((p, .lst xs) :: μ)
theorem NewL.d {k : SD → Store → Prop} {μ : Store} {ds : List PyData} (h : k (.im (.list ds)) μ) : NewL k μ (ds.map .im) := .inl ⟨ds, rfl, h⟩
theorem NewL.c {k : SD → Store → Prop} {μ : Store} {xs : List SD} (h : ∀ p, k (.mt p) ((p, .lst xs) :: μ)) : NewL k μ xs := .inr h
section
variable {S : Av} {H : Hp} {k : SD → Store → Prop} {Q : VK} {ρ : Ren} {μ : Store} {ta tb te : TE} {r : R2} {v : V} {x y : SD} {xs ys : List SD} {K : PySem.W.Frag}
theorem LV.at_ (h : LV μ x xs) (c : Core S μ H) (s : SV S H v x) : ∃ a vs, v = .ref a ∧ H a = some (.lst vs) ∧ SVs S H vs xs := by
  rcases h with ⟨ds, rfl, rfl⟩ | ⟨a, rfl, h⟩
  · cases s with
    | lst e n d => exact ⟨_, _, rfl, e, da_ims d⟩
  · obtain ⟨vs, e, p⟩ := c.cells _ h
    exact ⟨a, vs, s, e, p⟩
theorem QV.at_ (h : QV μ x xs) (c : Core S μ H) (s : SV S H v x) : ∃ a vs, v = .ref a ∧ (SqL K H a vs ∨ SqT K H a vs) ∧ SVs S H vs xs := by
  rcases h with h | ⟨ds, rfl, rfl⟩
  · obtain ⟨a, vs, e, h1, h2⟩ := h.at_ c s
    exact ⟨a, vs, e, .inl (.of h1), h2⟩
  · cases s with
    | tup e n d => exact ⟨_, _, rfl, .inr (.of e), da_ims d⟩
mutual
theorem da_dp : ∀ (d : PyData) (v : V), Da S H v d → Dp K H v d
  | .none, _, h => by cases h; exact .non
  | .bool b, _, h => by cases h; exact .bl b
  | .int i, _, h => by cases h; exact .int i
  | .str x, _, h => by cases h; exact .str x
  | .list ds, _, h => by
    cases h with
    | lst r n hs => exact .lst (.of r) (das_dp ds _ hs)
  | .tuple ds, _, h => by
    cases h with
    | tup r n hs => exact .tup (.of r) (das_dp ds _ hs)
  | .dict _, _, h => by cases h
theorem das_dp : ∀ (ds : List PyData) (vs : List V), DaAll S H vs ds → DpAll K H vs ds
  | [], _, h => by cases h; exact .nil
  | d :: ds, _, h => by
    cases h with
    | cons h1 h2 => exact .cons (da_dp d _ h1) (das_dp ds _ h2)
end
theorem DV.dp {d : PyData} (h : DV μ x d) (c : Core S μ H) (s : SV S H v x) : Dp K H v d := by
  rcases h with rfl | ⟨a, ds, rfl, h, rfl⟩
  · exact da_dp d v s
  · obtain ⟨vs, e, p⟩ := c.cells _ h
    rw [show v = .ref a from s]
    exact .lst (.of e) (das_dp ds _ (ims_da p))
theorem post_new {vs : List V} {p : Addr} (q : Post S μ H k Q) (c : Core S μ H) (hx : SVs S H vs xs) (hp : H p = none) (h : NewL k μ xs) : Q (.ref p) (upd H p (.lst vs)) := by
  rcases h with ⟨ds, rfl, h⟩ | h
  · exact post_lst q c (ims_da hx) hp h
  · exact post_cell q c hx hp h
theorem svs_app {vs ws : List V} (h : SVs S H vs xs) (g : SVs S H ws ys) : SVs S H (vs ++ ws) (xs ++ ys) := by
  induction h with
  | nil => exact g
  | cons a b ih => exact .cons a ih
theorem svs_take {vs : List V} (h : SVs S H vs xs) : ∀ n, SVs S H (vs.take n) (xs.take n) := by
  induction h with
  | nil => intro n; rw [List.take_nil, List.take_nil]; exact .nil
  | cons a b ih =>
    intro n
    cases n with
    | zero => exact .nil
    | succ n => exact .cons a (ih n)
theorem svs_drop {vs : List V} (h : SVs S H vs xs) : ∀ n, SVs S H (vs.drop n) (xs.drop n) := by
  induction h with
  | nil => intro n; rw [List.drop_nil, List.drop_nil]; exact .nil
  | cons a b ih =>
    intro n
    cases n with
    | zero => exact .cons a b
    | succ n => exact ih n
theorem svs_rev {vs : List V} (h : SVs S H vs xs) : SVs S H vs.reverse xs.reverse := by
  induction h with
  | nil => exact .nil
  | cons a b ih =>
    rw [List.reverse_cons, List.reverse_cons]
    exact svs_app ih (.cons a .nil)
theorem svs_get {vs : List V} (h : SVs S H vs xs) : ∀ {i : Nat} {y : SD}, xs[i]? = some y → ∃ v, vs[i]? = some v ∧ SV S H v y := by
  induction h with
  | nil => intro i y e; rw [List.getElem?_nil] at e; cases e
  | cons a b ih =>
    intro i y e
    cases i with
    | zero => cases e; exact ⟨_, rfl, a⟩
    | succ i => exact ih (i := i) (by simpa using e)
theorem svs_set {vs : List V} (h : SVs S H vs xs) (g : SV S H v y) : ∀ i : Nat, SVs S H (vs.set i v) (xs.set i y) := by
  induction h with
  | nil => intro i; exact .nil
  | cons a b ih =>
    intro i
    cases i with
    | zero => exact .cons g b
    | succ i => exact .cons a (ih i)
theorem svs_erase {vs : List V} (h : SVs S H vs xs) : ∀ i : Nat, SVs S H (vs.eraseIdx i) (xs.eraseIdx i) := by
  induction h with
  | nil => intro i; exact .nil
  | cons a b ih =>
    intro i
    cases i with
    | zero => exact b
    | succ i => exact .cons a (ih i)
theorem svs_dropLast {vs : List V} (h : SVs S H vs xs) : SVs S H vs.dropLast xs.dropLast := by
  rw [List.dropLast_eq_take, List.dropLast_eq_take, svs_len h]
  exact svs_take h _
theorem svs_at {vs : List V} (h : SVs S H vs xs) {i : Int} {y : SD} (e : atI xs i = some y) : ∃ v, atI vs i = some v ∧ SV S H v y := by
  unfold atI at e ⊢
  rw [svs_len h]
  cases q : ixN xs.length i with
  | none => rw [q] at e; cases e
  | some j =>
    rw [q] at e
    exact svs_get h e
theorem svs_rep {vs : List V} (h : SVs S H vs xs) : ∀ n : Nat, SVs S H (List.replicate n vs).flatten (List.replicate n xs).flatten := by
  intro n
  induction n with
  | zero => exact .nil
  | succ n ih =>
    rw [List.replicate_succ, List.replicate_succ, List.flatten_cons, List.flatten_cons]
    exact svs_app h ih
/-- a slice's part -/
def cutL {α : Type} (xs : List α) (lo hi : Option Int) : List α := (xs.drop (HT.sIx xs.length 0 lo)).take (HT.sIx xs.length xs.length hi - HT.sIx xs.length 0 lo)
theorem cutV_eq (vs : List V) (lo hi : Option Int) : cutV vs lo hi = cutL vs lo hi := rfl
theorem cutL_map {α β : Type} (f : α → β) (xs : List α) (lo hi : Option Int) : cutL (xs.map f) lo hi = (cutL xs lo hi).map f := by
  unfold cutL
  rw [List.length_map, List.map_take, List.map_drop]
theorem svs_cut {vs : List V} (h : SVs S H vs xs) (lo hi : Option Int) : SVs S H (cutV vs lo hi) (cutL xs lo hi) := by
  unfold cutV cutL
  rw [svs_len h]
  exact svs_take (svs_drop h _) _
/-! ### operators -/
theorem rv_i0 {f : Int → Int → Int} {i j : Int} (q : k (.im (.int (f i j))) μ) : Rv (rI0 fun i j => .int (f i j)) (.im (.int i)) (.im (.int j)) μ k := fun S H vx vy c hx hy Q p => by
  cases hx
  cases hy
  exact ⟨i, j, rfl, rfl, p.here q c (Da.int _)⟩
theorem rv_b0 {f : Int → Int → Bool} {i j : Int} (q : k (.im (.bool (f i j))) μ) : Rv (rI0 fun i j => .bl (f i j)) (.im (.int i)) (.im (.int j)) μ k := fun S H vx vy c hx hy Q p => by
  cases hx
  cases hy
  exact ⟨i, j, rfl, rfl, p.here q c (Da.bl _)⟩
theorem rv_i {C : Int → Int → Prop} {f : Int → Int → Int} {i j : Int} (hc : C i j) (q : k (.im (.int (f i j))) μ) : Rv (rI C fun i j => .int (f i j)) (.im (.int i)) (.im (.int j)) μ k := fun S H vx vy c hx hy Q p => by
  cases hx
  cases hy
  exact ⟨i, j, rfl, rfl, hc, p.here q c (Da.int _)⟩
theorem ru_i {f : Int → Int} {i : Int} (q : k (.im (.int (f i))) μ) : Ru (rU fun i => .int (f i)) (.im (.int i)) μ k := fun S H vx c hx Q p => by
  cases hx
  exact ⟨i, rfl, p.here q c (Da.int _)⟩
theorem Rv.lf {r r' : R2} (h : Rv r x y μ k) : Rv (fun x y H Q => r x y H Q ∨ r' x y H Q) x y μ k := fun S H vx vy c hx hy Q p => .inl (h S H vx vy c hx hy Q p)
theorem Rv.rt {r r' : R2} (h : Rv r' x y μ k) : Rv (fun x y H Q => r x y H Q ∨ r' x y H Q) x y μ k := fun S H vx vy c hx hy Q p => .inr (h S H vx vy c hx hy Q p)
theorem Rc.lf {r r' : List V → Hp → VK → Prop} (h : Rc r xs μ k) : Rc (fun x H Q => r x H Q ∨ r' x H Q) xs μ k := fun S H vx c hx Q p => .inl (h S H vx c hx Q p)
theorem Rc.rt {r r' : List V → Hp → VK → Prop} (h : Rc r' xs μ k) : Rc (fun x H Q => r x H Q ∨ r' x H Q) xs μ k := fun S H vx c hx Q p => .inr (h S H vx c hx Q p)
def rAddT : R2 := fun x y H Q => ∃ i j, x = .str i ∧ y = .str j ∧ i.length + j.length ≤ sizeLine ∧ Q (.str (i ++ j)) H
def rPlus (K : PySem.W.Frag) : R2 := fun x y H Q => (rI0 fun i j => .int (i + j)) x y H Q ∨ (fun x y H Q => rCat x y H Q ∨ (fun x y H Q => rCatA K x y H Q ∨ rAddT x y H Q) x y H Q) x y H Q
theorem op_plus {X : Cx} : OpR X (binaryOp .Add) (rPlus X.K) := op_add.or (op_cat.or (op_catA.or op_add_str))
theorem rv_plus {i j : Int} (q : k (.im (.int (i + j))) μ) : Rv (rPlus K) (.im (.int i)) (.im (.int j)) μ k := Rv.lf (rv_i0 q)
theorem rv_cat (hx : LV μ x xs) (hy : LV μ y ys) (hl : xs.length + ys.length ≤ sizeLine) (q : NewL k μ (xs ++ ys)) : Rv (rPlus K) x y μ k := Rv.rt (Rv.lf fun S H vx vy c sx sy Q p => by
  obtain ⟨a, vs, rfl, e1, p1⟩ := hx.at_ c sx
  obtain ⟨b, ws, rfl, e2, p2⟩ := hy.at_ c sy
  exact ⟨a, b, vs, ws, rfl, rfl, e1, e2, by rw [svs_len p1, svs_len p2]; exact hl, fun t ht => post_new p c (svs_app p1 p2) ht q⟩)
theorem das_app {vs ws : List V} {ds es : List PyData} (h : DaAll S H vs ds) (g : DaAll S H ws es) : DaAll S H (vs ++ ws) (ds ++ es) := by
  have z := svs_app (da_ims h) (da_ims g)
  rw [← List.map_append] at z
  exact ims_da z
theorem rv_catT {ds es : List PyData} (hl : ds.length + es.length ≤ sizeLine) (q : k (.im (.tuple (ds ++ es))) μ) : Rv (rPlus K) (.im (.tuple ds)) (.im (.tuple es)) μ k := Rv.rt (Rv.rt (Rv.lf fun S H vx vy c sx sy Q p => by
  cases sx with
  | tup e1 n1 d1 =>
    cases sy with
    | tup e2 n2 d2 =>
      refine ⟨_, _, _, _, rfl, rfl, .of e1, .of e2, by rw [d1.len, d2.len]; exact hl, fun h => ?_, fun h h' => ?_, fun h h' t ht => ?_⟩
      · subst h
        cases d1
        exact p.here q c (Da.tup e2 n2 d2)
      · subst h'
        cases d2
        rw [List.append_nil] at q
        exact p.here q c (Da.tup e1 n1 d1)
      · exact post_tup p c (das_app d1 d2) ht q))
theorem rv_catS {i j : Str} (hl : i.length + j.length ≤ sizeLine) (q : k (.im (.str (i ++ j))) μ) : Rv (rPlus K) (.im (.str i)) (.im (.str j)) μ k := Rv.rt (Rv.rt (Rv.rt fun S H vx vy c sx sy Q p => by
  cases sx
  cases sy
  exact ⟨i, j, rfl, rfl, hl, p.here q c (Da.str _)⟩))
def rTimes : R2 := fun x y H Q => (rI CMul fun i j => .int (i * j)) x y H Q ∨ rRep x y H Q
theorem op_times {X : Cx} : OpR X (binaryOp .Mult) rTimes := op_mul.or op_rep
theorem rv_times {i j : Int} (hc : CMul i j) (q : k (.im (.int (i * j))) μ) : Rv rTimes (.im (.int i)) (.im (.int j)) μ k := Rv.lf (rv_i hc q)
theorem rv_rep {n : Int} (hx : LV μ x xs) (h0 : -(2 ^ 63) ≤ n) (h1 : n < 2 ^ 63) (hl : xs.length * n.toNat ≤ sizeLine) (q : NewL k μ (List.replicate n.toNat xs).flatten) : Rv rTimes x (.im (.int n)) μ k := Rv.rt fun S H vx vy c sx sy Q p => by
  obtain ⟨a, vs, rfl, e1, p1⟩ := hx.at_ c sx
  cases sy
  exact ⟨a, n, vs, rfl, rfl, e1, h0, h1, by rw [svs_len p1]; exact hl, fun t ht => post_new p c (svs_rep p1 _) ht q⟩
/-! == and != -/
def rEqA (K : PySem.W.Frag) : R2 := fun x y H Q => rEq x y H Q ∨ rEqD K x y H Q
def rNeA (K : PySem.W.Frag) : R2 := fun x y H Q => rNe x y H Q ∨ rNeD K x y H Q
theorem op_eqA {X : Cx} {n : Nat} (hr : Room n X.A) : OpR X (compareOp .Eq) (rEqA X.K) := op_eq.or (op_eqD hr.units)
theorem op_neA {X : Cx} {n : Nat} (hr : Room n X.A) : OpR X (compareOp .NotEq) (rNeA X.K) := op_ne.or (op_neD hr.units)
theorem rv_eqI {i j : Int} (q : k (.im (.bool (decide (i = j)))) μ) : Rv (rEqA K) (.im (.int i)) (.im (.int j)) μ k := Rv.lf fun S H vx vy c sx sy Q p => by
  cases sx
  cases sy
  refine ⟨rfl, ?_⟩
  have e : decide (V.int i = V.int j) = decide (i = j) := by
    by_cases h : i = j
    · rw [h]; simp
    · rw [decide_eq_false h, decide_eq_false (fun z => h (V.int.inj z))]
  rw [e]
  exact p.here q c (Da.bl _)
theorem rv_neI {i j : Int} (q : k (.im (.bool (!decide (i = j)))) μ) : Rv (rNeA K) (.im (.int i)) (.im (.int j)) μ k := Rv.lf fun S H vx vy c sx sy Q p => by
  cases sx
  cases sy
  refine ⟨rfl, ?_⟩
  have e : decide (V.int i = V.int j) = decide (i = j) := by
    by_cases h : i = j
    · rw [h]; simp
    · rw [decide_eq_false h, decide_eq_false (fun z => h (V.int.inj z))]
  rw [e]
  exact p.here q c (Da.bl _)
theorem rv_eqD {d e : PyData} (hx : DV μ x d) (hy : DV μ y e) (s1 : SeqAt.shaped d = true) (s2 : SeqAt.shaped e = true) (q : k (.im (.bool (PyData.eqv d e))) μ) : Rv (rEqA K) x y μ k := Rv.rt fun S H vx vy c sx sy Q p =>
  ⟨d, e, hx.dp c sx, hy.dp c sy, s1, s2, p.here q c (Da.bl _)⟩
theorem rv_neD {d e : PyData} (hx : DV μ x d) (hy : DV μ y e) (s1 : SeqAt.shaped d = true) (s2 : SeqAt.shaped e = true) (q : k (.im (.bool (!PyData.eqv d e))) μ) : Rv (rNeA K) x y μ k := Rv.rt fun S H vx vy c sx sy Q p =>
  ⟨d, e, hx.dp c sx, hy.dp c sy, s1, s2, p.here q c (Da.bl _)⟩
/-! subscripts -/
theorem rv_ix {xs : List SD} {i : Int} (hx : QV μ x xs) (e : atI xs i = some y) (q : k y μ) : Rv (rIx K) x (.im (.int i)) μ k := fun S H vx vy c sx sy Q p => by
  obtain ⟨a, vs, rfl, h, p1⟩ := hx.at_ (K := K) c sx
  cases sy
  obtain ⟨v, ev, sv⟩ := svs_at p1 e
  rcases h with h | h
  · exact .inl ⟨a, vs, i, v, rfl, rfl, h, ev, p.here q c sv⟩
  · exact .inr (.inl ⟨a, vs, i, v, rfl, rfl, h, ev, p.here q c sv⟩)
theorem rv_ixT {ds : List PyData} {d : PyData} {i : Int} (e : atI ds i = some d) (q : k (.im d) μ) : Rv (rIx K) (.im (.tuple ds)) (.im (.int i)) μ k := rv_ix (.t ds) (by
  unfold atI at e ⊢
  rw [List.length_map]
  cases z : ixN ds.length i with
  | none => rw [z] at e; cases e
  | some j =>
    rw [z] at e
    show (ds.map SD.im)[j]? = some (.im d)
    rw [List.getElem?_map, show ds[j]? = some d from e]
    rfl) q
theorem rv_ixL {ds : List PyData} {d : PyData} {i : Int} (e : atI ds i = some d) (q : k (.im d) μ) : Rv (rIx K) (.im (.list ds)) (.im (.int i)) μ k := rv_ix (.l ds) (by
  unfold atI at e ⊢
  rw [List.length_map]
  cases z : ixN ds.length i with
  | none => rw [z] at e; cases e
  | some j =>
    rw [z] at e
    show (ds.map SD.im)[j]? = some (.im d)
    rw [List.getElem?_map, show ds[j]? = some d from e]
    rfl) q
theorem rv_ixC {a : Addr} {xs : List SD} {i : Int} (h : (a, Cell.lst xs) ∈ μ) (e : atI xs i = some y) (q : k y μ) : Rv (rIx K) (.mt a) (.im (.int i)) μ k := rv_ix (.c h) e q
/-! slices -/
def rSl (K : PySem.W.Frag) : V → Option Int → Option Int → Hp → VK → Prop := fun x lo hi H Q => rSlL K x lo hi H Q ∨ rSlA K x lo hi H Q
theorem sl_any {X : Cx} : SlR X (rSl X.K) := sl_list.or sl_tupA
theorem evo_none {k : Option Int → Store → Prop} (q : k none μ) : EvO tNoPart ρ μ k := fun S σ H c e Q p => p none μ S H q c c.refl
theorem evo_some {k : Option Int → Store → Prop} (h : Ev te ρ μ fun x μ1 => ∃ i, x = .im (.int i) ∧ k (some i) μ1) : EvO (tPart te) ρ μ k := fun S σ H c e Q p =>
  h S σ H c e _ fun x μ1 v S1 H1 ⟨i, ei, hk⟩ c1 s1 sv => by
    subst ei
    cases sv
    exact ⟨i, rfl, p (some i) μ1 S1 H1 hk c1 s1⟩
theorem ev_sl {r : V → Option Int → Option Int → Hp → VK → Prop} {tl th : TO} (h : Ev te ρ μ fun x μ1 => EvO tl ρ μ1 fun lo μ2 => EvO th ρ μ2 fun hi μ3 => Rs r x lo hi μ3 k) : Ev (tSl r te tl th) ρ μ k := fun S σ H c e Q p =>
  h S σ H c e _ fun x μ1 v S1 H1 h1 c1 s1 sv => h1 S1 σ H1 c1 (e.step s1) _ fun lo μ2 S2 H2 h2 c2 s2 =>
    h2 S2 σ H2 c2 (e.step (s1.trans s2)) _ fun hi μ3 S3 H3 h3 c3 s3 => h3 S3 H3 v c3 (sv.step (s2.trans s3)) Q (p.after (s1.trans (s2.trans s3)))
theorem rs_list {lo hi : Option Int} (hx : LV μ x xs) (q : NewL k μ (cutL xs lo hi)) : Rs (rSl K) x lo hi μ k := fun S H vx c sx Q p => by
  obtain ⟨a, vs, rfl, e1, p1⟩ := hx.at_ c sx
  exact .inl ⟨a, vs, rfl, .of e1, fun t ht => post_new p c (svs_cut p1 lo hi) ht q⟩
theorem rs_listD {ds : List PyData} {lo hi : Option Int} (q : k (.im (.list (cutL ds lo hi))) μ) : Rs (rSl K) (.im (.list ds)) lo hi μ k := rs_list (.d ds) (by rw [cutL_map]; exact .d q)
theorem rs_tup {ds : List PyData} {lo hi : Option Int} (q : k (.im (.tuple (cutL ds lo hi))) μ) : Rs (rSl K) (.im (.tuple ds)) lo hi μ k := fun S H vx c sx Q p => by
  cases sx with
  | tup e n d =>
    refine .inr ⟨_, _, rfl, .of e, fun h => ?_, fun h t ht => ?_⟩
    · rw [d.len] at h
      have z : cutL ds lo hi = ds := by
        unfold cutL
        rw [h.1, h.2, List.drop_zero, Nat.sub_zero]
        exact List.take_length
      rw [z] at q
      exact p.here q c (Da.tup e n d)
    · have z := svs_cut (da_ims d) lo hi
      rw [cutL_map] at z
      exact post_tup p c (ims_da z) ht q
theorem rs_sc {ns : List Int} {P : Addr → Prop} {lo hi : Option Int} (hP : ∀ a H, P a → SqL K H a (ns.map V.int)) (q : NewL k μ ((cutL ns lo hi).map fun n => .im (.int n))) : Rs (rSl K) (.sc ns P) lo hi μ k := fun S H vx c sx Q p => by
  obtain ⟨a, rfl, h⟩ := sx
  have hs : SqL K H a (ns.map V.int) := by
    rcases h with h | ⟨_, o, h⟩
    · exact hP a H h
    · exact .inl (.inr ⟨o, h⟩)
  refine .inl ⟨a, _, rfl, hs, fun t ht => post_new p c ?_ ht q⟩
  rw [cutV_eq, cutL_map]
  generalize cutL ns lo hi = ms
  induction ms with
  | nil => exact .nil
  | cons m ms ih => exact .cons (Da.int m) ih
theorem sc_at {ns : List Int} {P : Addr → Prop} (hP : ∀ a H, P a → SqL K H a (ns.map V.int)) (s : SV S H v (.sc ns P)) : ∃ a, v = .ref a ∧ SqL K H a (ns.map V.int) := by
  obtain ⟨a, e, h⟩ := s
  refine ⟨a, e, ?_⟩
  rcases h with h | ⟨_, o, h⟩
  · exact hP a H h
  · exact .inl (.inr ⟨o, h⟩)
/-- xs[::-1] -/
theorem ev_revL (h : Ev te ρ μ fun x μ1 => ∃ xs, LV μ1 x xs ∧ NewL k μ1 xs.reverse) : Ev (tRevL K te) ρ μ k := fun S σ H c e Q p =>
  h S σ H c e _ fun x μ1 v S1 H1 ⟨xs, hx, q⟩ c1 s1 sv => by
    obtain ⟨a, vs, rfl, e1, p1⟩ := hx.at_ c1 sv
    exact ⟨a, vs, rfl, .of e1, fun t ht => post_new (p.after s1) c1 (svs_rev p1) ht q⟩
/-! ### tests -/
variable {tt tu : TT} {kb : Bool → Store → Prop}
theorem evt_test (h : Ev te ρ μ fun x μ1 => ∃ b, x = .im (.bool b) ∧ kb b μ1) : EvT (tTest te) ρ μ kb := fun S σ H c e Q p =>
  h S σ H c e _ fun x μ1 v S1 H1 ⟨b, eb, hk⟩ c1 s1 sv => by
    subst eb
    cases sv
    exact ⟨b, rfl, p b μ1 S1 H1 hk c1 s1⟩
theorem evt_B (h : Ev te ρ μ fun x μ1 => ∃ b, x = .im (.bool b) ∧ kb b μ1) : EvT (tB te) ρ μ kb := fun S σ H c e Q p =>
  h S σ H c e _ fun x μ1 v S1 H1 ⟨b, eb, hk⟩ c1 s1 sv => by
    subst eb
    cases sv
    exact ⟨b, rfl, p b μ1 S1 H1 hk c1 s1⟩
theorem evt_and (h : EvT tt ρ μ fun b μ1 => (b = true → EvT tu ρ μ1 kb) ∧ (b = false → kb false μ1)) : EvT (tAnd tt tu) ρ μ kb := fun S σ H c e Q p =>
  h S σ H c e _ fun b μ1 S1 H1 h1 c1 s1 => by
    cases b with
    | true => exact h1.1 rfl S1 σ H1 c1 (e.step s1) Q (p.after s1)
    | false => exact p false μ1 S1 H1 (h1.2 rfl) c1 s1
theorem evt_or (h : EvT tt ρ μ fun b μ1 => (b = true → kb true μ1) ∧ (b = false → EvT tu ρ μ1 kb)) : EvT (tOr tt tu) ρ μ kb := fun S σ H c e Q p =>
  h S σ H c e _ fun b μ1 S1 H1 h1 c1 s1 => by
    cases b with
    | true => exact p true μ1 S1 H1 (h1.1 rfl) c1 s1
    | false => exact h1.2 rfl S1 σ H1 c1 (e.step s1) Q (p.after s1)
theorem evt_not (h : EvT tt ρ μ fun b μ1 => kb (!b) μ1) : EvT (tNot tt) ρ μ kb := fun S σ H c e Q p =>
  h S σ H c e _ fun b μ1 S1 H1 h1 c1 s1 => p (!b) μ1 S1 H1 h1 c1 s1
theorem evt_isN (h : Ev te ρ μ fun x μ1 => (x = .im .none → kb true μ1) ∧ (x ≠ .im .none → kb false μ1)) : EvT (tB (tIsN te)) ρ μ kb := fun S σ H c e Q p =>
  h S σ H c e _ fun x μ1 v S1 H1 ⟨h1, h2⟩ c1 s1 sv => by
    refine ⟨_, rfl, ?_⟩
    by_cases z : x = .im .none
    · subst z
      cases sv
      rw [decide_eq_true rfl]
      exact p true μ1 S1 H1 (h1 rfl) c1 s1
    · have hv : v ≠ .non := by
        intro e
        subst e
        apply z
        cases x with
        | im d => cases sv; rfl
        | mt a => cases sv
        | sc ns P => obtain ⟨a, e, _⟩ := sv; cases e
      rw [decide_eq_false hv]
      exact p false μ1 S1 H1 (h2 z) c1 s1
theorem evt_notN (h : Ev te ρ μ fun x μ1 => (x = .im .none → kb false μ1) ∧ (x ≠ .im .none → kb true μ1)) : EvT (tB (tNotN te)) ρ μ kb := fun S σ H c e Q p =>
  h S σ H c e _ fun x μ1 v S1 H1 ⟨h1, h2⟩ c1 s1 sv => by
    refine ⟨_, rfl, ?_⟩
    by_cases z : x = .im .none
    · subst z
      cases sv
      rw [decide_eq_true rfl]
      exact p false μ1 S1 H1 (h1 rfl) c1 s1
    · have hv : v ≠ .non := by
        intro e
        subst e
        apply z
        cases x with
        | im d => cases sv; rfl
        | mt a => cases sv
        | sc ns P => obtain ⟨a, e, _⟩ := sv; cases e
      rw [decide_eq_false hv]
      exact p true μ1 S1 H1 (h2 z) c1 s1
theorem ev_chain {r r' : R2} {tc : TE} (h : Ev ta ρ μ fun x μ1 => Ev tb ρ μ1 fun y μ2 => Rv r x y μ2 fun z μ3 => ∃ b, z = .im (.bool b) ∧ (b = true → Ev tc ρ μ3 fun w μ4 => Rv r' y w μ4 k) ∧ (b = false → k (.im (.bool false)) μ3)) : Ev (tChain r r' ta tb tc) ρ μ k := fun S σ H c e Q p =>
  h S σ H c e _ fun x μ1 v S1 H1 h1 c1 s1 sv => h1 S1 σ H1 c1 (e.step s1) _ fun y μ2 u S2 H2 h2 c2 s2 su =>
    h2 S2 H2 v u c2 (sv.step s2) su _ fun z μ3 w S3 H3 ⟨b, ez, q1, q2⟩ c3 s3 sz => by
      subst ez
      cases sz
      refine ⟨b, rfl, ?_⟩
      cases b with
      | true =>
        exact q1 rfl S3 σ H3 c3 (e.step (s1.trans (s2.trans s3))) _ fun w' μ4 t S4 H4 h4 c4 s4 st => h4 S4 H4 u t c4 (su.step (s3.trans s4)) st Q (p.after (s1.trans (s2.trans (s3.trans s4))))
      | false => exact p _ μ3 (.bl false) S3 H3 (q2 rfl) c3 (s1.trans (s2.trans s3)) (Da.bl false)
end
end J
/-! J2: statements, targets, loops, comprehensions, methods of lists, defs over J0, J1. -/
namespace J
open PySem PySem.Spec PyProof.Rows L2
/-! ### the state between two statements -/
/-- at the def's entry: what is avoided, what may change, the heap; gh: values that a loop holds -/
structure G where
  S : Av
  M : Av
  H : Hp
  gh : List (V × SD)
abbrev G.add (g : G) (gh : List (V × SD)) : G := { g with gh := gh ++ g.gh }
def State (g : G) (ρ : Ren) (μ : Store) (σ : L2.St) (H : Hp) : Prop :=
  ∃ S, Core S μ H ∧ Step g.S g.M g.H S (dm μ) H ∧ Em S H ρ σ ∧ (∀ p ∈ g.gh, SV S H p.1 p.2) ∧ ∀ a, g.S a → g.H a ≠ none
def Go (g : G) (t : TS) (D : Ends) (ρ : Ren) (μ : Store) : Prop := ∀ σ H, State g ρ μ σ H → t D σ H
def Nxt (g : G) (P : L2.St → Hp → Prop) (ρ : Ren) (μ : Store) : Prop := ∀ σ H, State g ρ μ σ H → P σ H
/-- some state of which P holds -/
def Nx (g : G) (P : Ren → Store → Prop) : L2.St → Hp → Prop := fun σ H => ∃ ρ μ, P ρ μ ∧ State g ρ μ σ H
theorem nxt_nx {g : G} {P : Ren → Store → Prop} {ρ : Ren} {μ : Store} (h : P ρ μ) : Nxt g (Nx g P) ρ μ := fun σ H s => ⟨ρ, μ, h, s⟩
section
variable {g : G} {D : Ends} {ρ ρ' : Ren} {μ μ' : Store} {σ : L2.St} {H : Hp} {S : Av} {te ta tb : TE} {tt : TT} {t u : TS} {k : SD → Store → Prop} {K : PySem.W.Frag}
theorem State.ungh {gh : List (V × SD)} (s : State (g.add gh) ρ μ σ H) : State g ρ μ σ H := by
  obtain ⟨S, c, st, e, gg, l⟩ := s
  exact ⟨S, c, st, e, fun p hp => gg p (List.mem_append_right _ hp), l⟩
theorem State.weak (s : State g ρ μ σ H) (hl : ρ'.length = ρ.length) (w : ∀ (i : Nat) (x : SD), ρ'[i]? = some (some x) → ρ[i]? = some (some x)) (hm : μ'.Sublist μ) : State g ρ' μ' σ H := by
  obtain ⟨S, c, st, e, gg, l⟩ := s
  refine ⟨S, c.drop hm, ⟨st.le, st.keep, st.grow, fun a h => st.growM a ?_, st.sub⟩, e.weak hl w, gg, l⟩
  exact (hm.map (·.1)).mem h
theorem State.perm (s : State g ρ μ σ H) (hm : μ'.Perm μ) : State g ρ μ' σ H := by
  obtain ⟨S, c, st, e, gg, l⟩ := s
  refine ⟨S, c.perm hm, ⟨st.le, st.keep, st.grow, fun a h => st.growM a ((dm_perm hm a).mp h), st.sub⟩, e, gg, l⟩
/-- behind an expression -/
theorem st_ev (s : State g ρ μ σ H) (e : Ev te ρ μ k) {Q : VK} (q : ∀ r μ' v H', k r μ' → State (g.add [(v, r)]) ρ μ' σ H' → Q v H') : te σ H Q := by
  obtain ⟨S, c, st, en, gg, l⟩ := s
  refine e S σ H c en Q fun r μ' v S' H' hk c' s' sv => q r μ' v H' hk ⟨S', c', st.trans s', en.step s', fun p hp => ?_, l⟩
  rcases List.mem_append.mp hp with hp | hp
  · cases List.mem_singleton.mp hp
    exact sv
  · exact (gg p hp).step s'
theorem st_evT {kb : Bool → Store → Prop} (s : State g ρ μ σ H) (e : EvT tt ρ μ kb) {Q : Bool → Hp → Prop} (q : ∀ b μ' H', kb b μ' → State g ρ μ' σ H' → Q b H') : tt σ H Q := by
  obtain ⟨S, c, st, en, gg, l⟩ := s
  exact e S σ H c en Q fun r μ' S' H' hk c' s' => q r μ' H' hk ⟨S', c', st.trans s', en.step s', fun p hp => (gg p hp).step s', l⟩
theorem st_evA {ta : TA} {ka : List SD → Store → Prop} (s : State g ρ μ σ H) (e : EvA ta ρ μ ka) {Q : List V → Hp → Prop} (q : ∀ rs μ' vs H', ka rs μ' → (∃ gh, gh = vs.zip rs ∧ vs.length = rs.length) → State (g.add (vs.zip rs)) ρ μ' σ H' → Q vs H') : ta σ H Q := by
  obtain ⟨S, c, st, en, gg, l⟩ := s
  refine e S σ H c en Q fun r μ' vs S' H' hk c' s' sv => q r μ' vs H' hk ⟨_, rfl, svs_len sv⟩ ⟨S', c', st.trans s', en.step s', fun p hp => ?_, l⟩
  rcases List.mem_append.mp hp with hp | hp
  · have z : ∀ {vs : List V} {rs : List SD}, SVs S' H' vs rs → ∀ p ∈ vs.zip rs, SV S' H' p.1 p.2 := by
      intro vs rs h
      induction h with
      | nil => intro p hp; simp at hp
      | cons a b ih =>
        intro p hp
        rw [List.zip_cons_cons] at hp
        rcases List.mem_cons.mp hp with e | hp
        · rw [e]; exact a
        · exact ih p hp
    exact z sv p hp
  · exact (gg p hp).step s'
theorem State.set {v : V} {x : SD} (s : State (g.add [(v, x)]) ρ μ σ H) (i : Nat) : State g (ρ.set i (some x)) μ (σ.set i (some v)) H := by
  obtain ⟨S, c, st, e, gg, l⟩ := s
  exact ⟨S, c, st, e.set i (gg (v, x) (List.mem_append_left _ (List.mem_singleton.mpr rfl))), fun p hp => gg p (List.mem_append_right _ hp), l⟩
/-- a list that changes no more is a datum from here on -/
theorem State.freeze {p : Addr} {ds : List PyData} {i j : Nat} (s : State g ρ μ σ H) (hj : μ[j]? = some (p, .lst (ds.map .im))) (hi : ρ[i]? = some (some (.mt p))) (hM : ∀ a, g.M a → dm (μ.eraseIdx j) a) :
    State g (ρ.set i (some (.im (.list ds)))) (μ.eraseIdx j) σ H := by
  obtain ⟨S, c, st, e, gg, l⟩ := s
  have hp : dm μ p := List.mem_map.mpr ⟨_, List.mem_of_getElem? hj, rfl⟩
  have hjl := (List.getElem?_eq_some_iff.mp hj).1
  have nd := c.nd
  have out : ¬ dm (μ.eraseIdx j) p := fun z => by
    obtain ⟨q, hq, eq⟩ := List.mem_map.mp z
    obtain ⟨m, hm⟩ := List.mem_iff_getElem?.mp hq
    rw [List.getElem?_eraseIdx] at hm
    have key : ∀ m', μ[m']? = some q → m' = j := fun m' h => by
      have e1 : (μ.map (·.1))[m']? = some p := by rw [List.getElem?_map, h]; exact congrArg some eq
      have e2 : (μ.map (·.1))[j]? = some p := by rw [List.getElem?_map, hj]; rfl
      exact nd_ix nd e1 e2
    by_cases h : m < j
    · rw [if_pos h] at hm
      have := key _ hm
      omega
    · rw [if_neg h] at hm
      have := key _ hm
      omega
  have h0 : g.H p = none := by
    rcases st.growM p hp with z | z
    · exact absurd (hM p z) out
    · exact z
  have nS : ¬ g.S p := fun z => l p z h0
  have sl : (μ.eraseIdx j).Sublist μ := List.eraseIdx_sublist μ j
  have less : ∀ a, (S a ∧ a ≠ p) → S a := fun a h => h.1
  have cd := c.drop sl
  obtain ⟨vs, ev, pv⟩ := c.cells _ (List.mem_of_getElem? hj)
  obtain ⟨v, hv, sv⟩ := e.at_ i _ hi
  have sv' : v = .ref p := sv
  have hil : i < ρ.length := (List.getElem?_eq_some_iff.mp hi).1
  refine ⟨fun a => S a ∧ a ≠ p, ⟨fun q hq => (cd.cells q hq).less less, fun q hq => ⟨cd.dom q hq, fun z => out (by rw [← z]; exact List.mem_map.mpr ⟨q, hq, rfl⟩)⟩, cd.nd, fun a h => c.live a h.1⟩,
    ⟨st.le, st.keep, fun a h => st.grow a h.1, fun a h => st.growM a ((sl.map (·.1)).mem h), fun a h => ⟨st.sub a h, fun z => nS (by rw [← z]; exact h)⟩⟩, ⟨by rw [List.length_set]; exact e.len, fun m x hx => ?_⟩, fun q hq => (gg q hq).less less, l⟩
  by_cases hm : i = m
  · subst hm
    rw [List.getElem?_set_self hil] at hx
    cases hx
    refine ⟨v, hv, ?_⟩
    show Da _ H v (.list ds)
    rw [sv']
    exact Da.lst ev (fun z => z.2 rfl) (ims_da (SVs.less pv less))
  · rw [List.getElem?_set_ne hm] at hx
    obtain ⟨w, h1, h2⟩ := e.at_ m x hx
    exact ⟨w, h1, h2.less less⟩
/-! ### statements -/
theorem go_of (h : ∀ σ H, State g ρ μ σ H → t D σ H) : Go g t D ρ μ := h
theorem Go.weak (h : Go g t D ρ' μ') (hl : ρ'.length = ρ.length) (w : ∀ (i : Nat) (x : SD), ρ'[i]? = some (some x) → ρ[i]? = some (some x)) (hm : μ'.Sublist μ) : Go g t D ρ μ := fun σ H s => h σ H (s.weak hl w hm)
theorem Go.perm (h : Go g t D ρ μ') (hm : μ'.Perm μ) : Go g t D ρ μ := fun σ H s => h σ H (s.perm hm)
theorem go_freeze {p : Addr} {ds : List PyData} (i j : Nat) (hj : μ[j]? = some (p, .lst (ds.map .im))) (hi : ρ[i]? = some (some (.mt p))) (hM : ∀ a, g.M a → dm (μ.eraseIdx j) a) (h : Go g t D (ρ.set i (some (.im (.list ds)))) (μ.eraseIdx j)) : Go g t D ρ μ :=
  fun σ H s => h σ H (s.freeze hj hi hM)
theorem go_seq (h : Go g t { D with nx := u D } ρ μ) : Go g (tSeq t u) D ρ μ := h
theorem go_cut (P : Ren → Store → Prop) (h : Go g t { D with nx := Nx g P } ρ μ) (q : ∀ ρ' μ', P ρ' μ' → Go g u D ρ' μ') : Go g (Evl.tCut t u) D ρ μ := fun σ H s =>
  ⟨Nx g P, h σ H s, fun σ' H' ⟨ρ', μ', p, s'⟩ => q ρ' μ' p σ' H' s'⟩
theorem go_next (h : Nxt g D.nx ρ μ) : Go g tNext D ρ μ := h
theorem go_asg {i : Nat} (h : Ev te ρ μ fun r μ' => Nxt g D.nx (ρ.set i (some r)) μ') : Go g (tAsg te (gName i)) D ρ μ := fun σ H s =>
  st_ev s h fun r μ' v H' hk s' => hk _ _ (s'.set i)
theorem go_drop (h : Ev te ρ μ fun _ μ' => Nxt g D.nx ρ μ') : Go g (tDrop te) D ρ μ := fun σ H s => st_ev s h fun r μ' v H' hk s' => hk _ _ s'.ungh
/-- what is promised of an answer -/
def Ret (g : G) (R : SD → Store → Prop) (Q : VK) : Prop := ∀ r μ v S H, R r μ → Core S μ H → Step g.S g.M g.H S (dm μ) H → SV S H v r → Q v H
theorem go_ret {R : SD → Store → Prop} (hR : Ret g R D.rt) (h : Ev te ρ μ R) : Go g (tRet te) D ρ μ := fun σ H ⟨S, c, st, e, gg, l⟩ =>
  h S σ H c e _ fun r μ' v S' H' hk c' s' sv => hR r μ' v S' H' hk c' (st.trans s') sv
theorem nxt_end {R : SD → Store → Prop} {Q : VK} (hR : Ret g R Q) (h : R (.im .none) μ) : Nxt g (fun _ H' => Q .non H') ρ μ := fun σ H ⟨S, c, st, e, gg, l⟩ => hR _ μ .non S H h c st Da.non
theorem go_retN {R : SD → Store → Prop} (hR : Ret g R D.rt) (h : R (.im .none) μ) : Go g tRetN D ρ μ := fun σ H ⟨S, c, st, e, gg, l⟩ => hR _ μ .non S H h c st Da.non
theorem go_if (h : EvT tt ρ μ fun b μ' => (b = true → Go g t D ρ μ') ∧ (b = false → Go g u D ρ μ')) : Go g (tIfS tt t u) D ρ μ := fun σ H s =>
  st_evT s h fun b μ' H' hk s' => by
    cases b with
    | true => exact hk.1 rfl σ H' s'
    | false => exact hk.2 rfl σ H' s'
theorem go_aug {i : Nat} {f : Int → Int → Int} {a : Int} (h0 : ρ[i]? = some (some (.im (.int a)))) (h : Ev te ρ μ fun r μ' => ∃ b, r = .im (.int b) ∧ Nxt g D.nx (ρ.set i (some (.im (.int (f a b))))) μ') : Go g (tAug i te (ipI f)) D ρ μ := fun σ H s => by
  obtain ⟨S, c, st, e, gg, l⟩ := id s
  obtain ⟨v, hv, sv⟩ := e.at_ i _ h0
  cases sv
  refine ⟨.int a, hv, st_ev s h fun r μ' w H' ⟨b, eb, hk⟩ s' => ?_⟩
  subst eb
  obtain ⟨S', c', st', e', gg', l'⟩ := s'
  have sw := gg' (w, .im (.int b)) (List.mem_append_left _ (List.mem_singleton.mpr rfl))
  cases sw
  exact ⟨a, b, rfl, rfl, hk _ _ ⟨S', c', st', e'.set i (Da.int _), fun p hp => gg' p (List.mem_append_right _ hp), l'⟩⟩
/-! ### targets -/
def Tg (tg : TG) (x : SD) (ρ : Ren) (μ : Store) (vs : List Nat) (k : Ren → Store → Prop) : Prop :=
  ∀ S σ H v, Core S μ H → Em S H ρ σ → SV S H v x → ∀ Q : L2.St → Hp → Prop, (∀ ρ' μ' S' H' σ', k ρ' μ' → Core S' μ' H' → Step S (dm μ) H S' (dm μ') H' → Em S' H' ρ' σ' → wipe σ' vs = wipe σ vs → Q σ' H') → tg v σ H Q
def Tgs (tg : TGs) (xs : List SD) (ρ : Ren) (μ : Store) (vs : List Nat) (k : Ren → Store → Prop) : Prop :=
  ∀ S σ H ws, Core S μ H → Em S H ρ σ → SVs S H ws xs → ∀ Q : L2.St → Hp → Prop, (∀ ρ' μ' S' H' σ', k ρ' μ' → Core S' μ' H' → Step S (dm μ) H S' (dm μ') H' → Em S' H' ρ' σ' → wipe σ' vs = wipe σ vs → Q σ' H') → tg ws σ H Q
theorem wipe_set {σ : L2.St} {i : Nat} {u : Option V} : ∀ {vs : List Nat}, i ∈ vs → wipe (σ.set i u) vs = wipe σ vs
  | [], h => by simp at h
  | v :: vs, h => by
    unfold wipe
    by_cases hi : i ∈ vs
    · rw [wipe_set hi]
    · have e : i = v := by
        rcases List.mem_cons.mp h with e | h
        · exact e
        · exact absurd h hi
      subst e
      have comm : ∀ {ws : List Nat}, i ∉ ws → wipe (σ.set i u) ws = (wipe σ ws).set i u := by
        intro ws
        induction ws with
        | nil => intro _; rfl
        | cons w ws ih =>
          intro hn
          unfold wipe
          rw [ih (fun z => hn (List.mem_cons_of_mem _ z)), List.set_comm _ _ (fun z => hn (by rw [z]; exact List.mem_cons_self))]
      rw [comm hi, List.set_set]
theorem tg_name {i : Nat} {x : SD} {vs : List Nat} {k : Ren → Store → Prop} (hi : i ∈ vs) (q : k (ρ.set i (some x)) μ) : Tg (gName i) x ρ μ vs k := fun S σ H v c e sv Q h =>
  h _ μ S H _ q c c.refl (e.set i sv) (wipe_set hi)
theorem tgs_nil {vs : List Nat} {k : Ren → Store → Prop} (q : k ρ μ) : Tgs gNil [] ρ μ vs k := fun S σ H ws c e sv Q h => by
  cases sv
  exact ⟨rfl, h _ μ S H _ q c c.refl e rfl⟩
theorem tgs_cons {a : TG} {r : TGs} {x : SD} {xs : List SD} {vs : List Nat} {k : Ren → Store → Prop} (h : Tg a x ρ μ vs fun ρ1 μ1 => Tgs r xs ρ1 μ1 vs k) : Tgs (gCons a r) (x :: xs) ρ μ vs k := fun S σ H ws c e sv Q q => by
  cases sv with
  | cons s1 s2 =>
    refine ⟨_, _, rfl, h S σ H _ c e s1 _ fun ρ1 μ1 S1 H1 σ1 h1 c1 st1 e1 w1 => ?_⟩
    exact h1 S1 σ1 H1 _ c1 e1 (SVs.step s2 st1) Q fun ρ' μ' S' H' σ' hk c' st' e' w' => q ρ' μ' S' H' σ' hk c' (st1.trans st') e' (w'.trans w1)
theorem tg_tup {n : Nat} {r : TGs} {ds : List PyData} {vs : List Nat} {k : Ren → Store → Prop} (hn : ds.length = n) (h : Tgs r (ds.map .im) ρ μ vs k) : Tg (gTup K n r) (.im (.tuple ds)) ρ μ vs k := fun S σ H v c e sv Q q => by
  cases sv with
  | tup ea na da => exact ⟨_, _, rfl, .of ea, da.len.trans hn, h S σ H _ c e (da_ims da) Q q⟩
/-- store through any target -/
theorem go_tgt {tg : TG} (vs : List Nat) (h : Ev te ρ μ fun r μ' => Tg tg r ρ μ' vs fun ρ' μ'' => Nxt g D.nx ρ' μ'') : Go g (tAsg te tg) D ρ μ := fun σ H s =>
  st_ev s h fun r μ' v H' hk ⟨S', c', st', e', gg', l'⟩ => by
    refine hk S' σ H' v c' e' (gg' (v, r) (List.mem_append_left _ (List.mem_singleton.mpr rfl))) _ fun ρ2 μ2 S2 H2 σ2 hk2 c2 st2 e2 _ => ?_
    exact hk2 σ2 H2 ⟨S2, c2, st'.trans st2, e2, fun p hp => (gg' p (List.mem_append_right _ hp)).step st2, l'⟩
/-- o[i] = e -/
theorem go_sub {to ti : TE} {t : TSet} (h : Ev te ρ μ fun x μ1 => Ev to ρ μ1 fun o μ2 => Ev ti ρ μ2 fun i μ3 => Rset t o i x μ3 fun μ4 => Nxt g D.nx ρ μ4) : Go g (tAsg te (gSub to ti t)) D ρ μ := fun σ H ⟨S, c, st, e, gg, l⟩ =>
  h S σ H c e _ fun x μ1 v S1 H1 h1 c1 s1 sx => h1 S1 σ H1 c1 (e.step s1) _ fun o μ2 w S2 H2 h2 c2 s2 so => h2 S2 σ H2 c2 (e.step (s1.trans s2)) _ fun i μ3 u S3 H3 h3 c3 s3 si =>
    h3 S3 H3 w u v c3 (so.step s3) si (sx.step (s2.trans s3)) _ fun μ4 S4 H4 hk c4 s4 => by
      have s14 := s1.trans (s2.trans (s3.trans s4))
      exact hk σ H4 ⟨S4, c4, st.trans s14, e.step s14, fun p hp => (gg p hp).step s14, l⟩
/-- list[i] = x -/
theorem rs_setL {a : Addr} {xs : List SD} {x : SD} {i : Int} {m : Nat} {k : Store → Prop} (j : Nat) (hj : μ[j]? = some (a, .lst xs)) (hi : ixN xs.length i = some m) (q : k (μ.set j (a, .lst (xs.set m x)))) : Rset rSetL (.mt a) (.im (.int i)) x μ k := fun S H vo vi vx c so si sx Q p => by
  cases so
  cases si
  obtain ⟨vs, e, pv⟩ := c.cells _ (List.mem_of_getElem? hj)
  have st := c.write_step (o := .lst (vs.set m vx)) (cl' := .lst (xs.set m x)) hj
  exact ⟨a, vs, i, m, rfl, rfl, e, by rw [svs_len pv]; exact hi, p _ S _ q (c.write hj ⟨_, upd_same, SVs.step (svs_set pv sx m) st⟩) st⟩
/-! ### methods of lists -/
def TyOk (T : String) (x : SD) (μ : Store) : Prop := (T = "list" ∧ ∃ xs, LV μ x xs) ∨ (T = "str" ∧ ∃ s, x = .im (.str s)) ∨ (T = "int" ∧ ∃ i, x = .im (.int i)) ∨ (T = "dict" ∧ ∃ a kvs, x = .mt a ∧ (a, Cell.dic kvs) ∈ μ)
theorem TyOk.v {T : String} {x : SD} {v : V} (h : TyOk T x μ) (c : Core S μ H) (s : SV S H v x) : tyV K T v H := by
  rcases h with ⟨e, xs, h⟩ | ⟨e, z, rfl⟩ | ⟨e, z, rfl⟩ | ⟨e, a, kvs, rfl, h⟩
  · obtain ⟨a, vs, rfl, h1, h2⟩ := h.at_ c s
    exact .inl ⟨e, vs, .of h1⟩
  · cases s
    exact e
  · cases s
    exact e
  · cases s
    obtain ⟨ws, h1, h2⟩ := c.cells _ h
    exact .inr (.inr (.inl ⟨e, .inr ⟨_, h1⟩⟩))
theorem TyOk.l {x : SD} {xs : List SD} (h : LV μ x xs) : TyOk "list" x μ := .inl ⟨rfl, xs, h⟩
theorem ev_bm {T : String} {r : V → List V → Hp → VK → Prop} {ta : TA} (h : Ev te ρ μ fun x μ1 => TyOk T x μ1 ∧ EvA ta ρ μ1 fun xs μ2 => Rm r x xs μ2 k) : Ev (tBM K T r te ta) ρ μ k := fun S σ H c e Q p =>
  h S σ H c e _ fun x μ1 v S1 H1 ⟨ty, h1⟩ c1 s1 sv => ⟨ty.v c1 sv, h1 S1 σ H1 c1 (e.step s1) _ fun xs μ2 vs S2 H2 h2 c2 s2 svs => h2 S2 H2 v vs c2 (sv.step s2) svs Q (p.after (s1.trans s2))⟩
theorem ev_bm0 {T : String} {r : V → List V → Hp → VK → Prop} (h : Ev te ρ μ fun x μ1 => TyOk T x μ1 ∧ Rm r x [] μ1 k) : Ev (tBM0 K T r te) ρ μ k := fun S σ H c e Q p =>
  h S σ H c e _ fun x μ1 v S1 H1 ⟨ty, h1⟩ c1 s1 sv => ⟨ty.v c1 sv, h1 S1 H1 v [] c1 sv .nil Q (p.after s1)⟩
theorem post_write {a : Addr} {xs ys : List SD} {ws : List V} {Q : VK} {j : Nat} {r : SD} {v : V} (p : Post S μ H k Q) (c : Core S μ H) (hj : μ[j]? = some (a, .lst xs)) (hw : SVs S H ws ys) (sv : SV S H v r) (q : k r (μ.set j (a, .lst ys))) : Q v (upd H a (.lst ws)) := by
  have st := c.write_step (o := .lst ws) (cl' := .lst ys) hj
  exact p _ _ _ S _ q (c.write hj ⟨_, upd_same, SVs.step hw st⟩) st (sv.step st)
theorem rm_append {a : Addr} {xs : List SD} {y : SD} (j : Nat) (hj : μ[j]? = some (a, .lst xs)) (hl : xs.length < sizeLine) (q : k (.im .none) (μ.set j (a, .lst (xs ++ [y])))) : Rm rAppend (.mt a) [y] μ k := fun S H vx vs c sx svs Q p => by
  cases sx
  cases svs with
  | cons s1 s2 =>
    cases s2
    obtain ⟨ws, e, pv⟩ := c.cells _ (List.mem_of_getElem? hj)
    exact ⟨a, ws, _, rfl, rfl, e, by rw [svs_len pv]; exact hl, post_write (r := .im .none) p c hj (svs_app pv (.cons s1 .nil)) Da.non q⟩
theorem rm_extend {a : Addr} {xs ys : List SD} {y : SD} (j : Nat) (hj : μ[j]? = some (a, .lst xs)) (hy : LV μ y ys) (hl : xs.length + ys.length ≤ sizeLine) (q : k (.im .none) (μ.set j (a, .lst (xs ++ ys)))) : Rm rExtend (.mt a) [y] μ k := fun S H vx vs c sx svs Q p => by
  cases sx
  cases svs with
  | cons s1 s2 =>
    cases s2
    obtain ⟨ws, e, pv⟩ := c.cells _ (List.mem_of_getElem? hj)
    obtain ⟨b, us, rfl, e2, pu⟩ := hy.at_ c s1
    exact ⟨a, b, ws, us, rfl, rfl, e, e2, by rw [svs_len pv, svs_len pu]; exact hl, post_write (r := .im .none) p c hj (svs_app pv pu) Da.non q⟩
theorem rm_pop {a : Addr} {xs : List SD} {y : SD} (j : Nat) (hj : μ[j]? = some (a, .lst xs)) (hl : xs[xs.length - 1]? = some y) (q : k y (μ.set j (a, .lst xs.dropLast))) : Rm rPop (.mt a) [] μ k := fun S H vx vs c sx svs Q p => by
  cases sx
  cases svs
  obtain ⟨ws, e, pv⟩ := c.cells _ (List.mem_of_getElem? hj)
  obtain ⟨v, hv, sv⟩ := svs_get pv hl
  rw [← svs_len pv] at hv
  exact ⟨a, ws, v, rfl, rfl, e, hv, post_write p c hj (svs_dropLast pv) sv q⟩
theorem rm_pop0 {a : Addr} {xs : List SD} {y : SD} (j : Nat) (hj : μ[j]? = some (a, .lst (y :: xs))) (q : k y (μ.set j (a, .lst xs))) : Rm rPopAt (.mt a) [.im (.int 0)] μ k := fun S H vx vs c sx svs Q p => by
  cases sx
  cases svs with
  | cons s1 s2 =>
    cases s2
    cases s1
    obtain ⟨ws, e, pv⟩ := c.cells _ (List.mem_of_getElem? hj)
    cases pv with
    | cons h1 h2 =>
      refine ⟨a, _, 0, 0, _, rfl, rfl, e, by decide, by decide, ?_, rfl, post_write p c hj (show SVs S H ((_ :: _ : List V).eraseIdx 0) xs from h2) h1 q⟩
      unfold seqIndex?
      rw [List.length_cons]
      simp
      try omega
def rInsert : V → List V → Hp → VK → Prop := fun x vs H Q => ∃ (l : Addr) (xs : List V) (i : Int) (y : V), x = .ref l ∧ vs = [.int i, y] ∧ H l = some (.lst xs) ∧ xs.length < sizeLine ∧ 0 ≤ i ∧ i < 2 ^ 63 ∧
    Q .non (upd H l (.lst (xs.take i.toNat ++ [y] ++ xs.drop i.toNat)))
theorem mt_insertJ {X : Cx} : MtR X "list.insert" rInsert := mt_insert
theorem rm_insert {a : Addr} {xs : List SD} {y : SD} {i : Int} (j : Nat) (hj : μ[j]? = some (a, .lst xs)) (hl : xs.length < sizeLine) (h0 : 0 ≤ i) (h1 : i < 2 ^ 63) (q : k (.im .none) (μ.set j (a, .lst (xs.take i.toNat ++ [y] ++ xs.drop i.toNat)))) : Rm rInsert (.mt a) [.im (.int i), y] μ k := fun S H vx vs c sx svs Q p => by
  cases sx
  cases svs with
  | cons s1 s2 =>
    cases s1
    cases s2 with
    | cons s2 s3 =>
      cases s3
      obtain ⟨ws, e, pv⟩ := c.cells _ (List.mem_of_getElem? hj)
      exact ⟨a, ws, i, _, rfl, rfl, e, by rw [svs_len pv]; exact hl, h0, h1, post_write (r := .im .none) p c hj (svs_app (svs_app (svs_take pv _) (.cons s2 .nil)) (svs_drop pv _)) Da.non q⟩
theorem da_tup {v : V} {ds : List PyData} (h : Da S H v (.tuple ds)) : ∃ a xs, v = .ref a ∧ H a = some (.tup xs) ∧ ¬ S a ∧ DaAll S H xs ds := by
  cases h with | tup e n d => exact ⟨_, _, rfl, e, n, d⟩
theorem da_lst {v : V} {ds : List PyData} (h : Da S H v (.list ds)) : ∃ a xs, v = .ref a ∧ H a = some (.lst xs) ∧ ¬ S a ∧ DaAll S H xs ds := by
  cases h with | lst e n d => exact ⟨_, _, rfl, e, n, d⟩
/-! ### what a loop walks -/
/-- n items, as long as the ghosts stand for what they stood for and the cells are as Gd says -/
def ItOk (J : It) (items : List SD) (gh : List (V × SD)) (Gd : Store → Prop) : Prop :=
  ∀ μ S H, Core S μ H → (∀ p ∈ gh, SV S H p.1 p.2) → Gd μ → (∀ i, i < items.length → J.go i H) ∧ J.stop items.length H ∧
    ∀ i x H', i < items.length → J.yld i H x H' → ∃ d, items[i]? = some d ∧ (∀ b o, H b = some o → H' b = some o) ∧ SV S H' x d
def Iv (wi : TI) (ρ : Ren) (μ : Store) (k : List SD → (Store → Prop) → Store → Prop) : Prop :=
  ∀ S σ H, Core S μ H → Em S H ρ σ → ∀ R : It → Hp → Prop, (∀ items Gd μ' J gh S' H', k items Gd μ' → Core S' μ' H' → Step S (dm μ) H S' (dm μ') H' → (∀ p ∈ gh, SV S' H' p.1 p.2) → ItOk J items gh Gd → R J H') → wi σ H R
abbrev free : Store → Prop := fun _ => True
def upto (a : Int) (n : Nat) : List SD := (List.range n).map fun (i : Nat) => SD.im (.int (a + i))
theorem upto_len (a : Int) (n : Nat) : (upto a n).length = n := by unfold upto; simp
theorem upto_get {a : Int} {n i : Nat} (h : i < n) : (upto a n)[i]? = some (.im (.int (a + i))) := by unfold upto; simp [h]
theorem it_range (lo : Int) (n : Nat) : ItOk (Itr lo n) (upto lo n) [] free := fun μ S H c gh hg => by
  rw [upto_len]
  refine ⟨fun i h => h, Nat.le_refl _, fun i x H' hi y => ?_⟩
  obtain ⟨e1, e2⟩ := y
  subst e1 e2
  exact ⟨_, upto_get hi, fun _ _ h => h, Da.int _⟩
variable {ki : List SD → (Store → Prop) → Store → Prop}
theorem iv_range1 {ta : TA} (h : EvA ta ρ μ fun as μ1 => ∃ n : Int, as = [.im (.int n)] ∧ -(2 ^ 62) ≤ n ∧ n < 2 ^ 62 ∧ ki (upto 0 n.toNat) free μ1) : Iv (iRng1 ta) ρ μ ki := fun S σ H c e R q =>
  h S σ H c e _ fun as μ1 vs S1 H1 ⟨n, ea, h1, h2, hk⟩ c1 s1 sv => by
    subst ea
    cases sv with
    | cons a b =>
      cases b
      cases a
      exact ⟨n, rfl, h1, h2, q _ _ μ1 _ [] S1 H1 hk c1 s1 (fun _ z => nomatch z) (it_range 0 n.toNat)⟩
theorem iv_range2 {ta : TA} (h : EvA ta ρ μ fun as μ1 => ∃ a b : Int, as = [.im (.int a), .im (.int b)] ∧ (-(2 ^ 62) ≤ a ∧ a < 2 ^ 62 ∧ -(2 ^ 62) ≤ b ∧ b < 2 ^ 62) ∧ ki (upto a (b - a).toNat) free μ1) : Iv (iRng2 ta) ρ μ ki := fun S σ H c e R q =>
  h S σ H c e _ fun as μ1 vs S1 H1 ⟨x, y, ea, h1, hk⟩ c1 s1 sv => by
    subst ea
    cases sv with
    | cons a b =>
      cases b with
      | cons b b' =>
        cases b'
        cases a
        cases b
        exact ⟨x, y, rfl, h1, q _ _ μ1 _ [] S1 H1 hk c1 s1 (fun _ z => nomatch z) (it_range x (y - x).toNat)⟩
/-- a, a - 1, .. -/
def downto (a : Int) (n : Nat) : List SD := (List.range n).map fun (i : Nat) => SD.im (.int (a + (i : Int) * (-1)))
theorem downto_len (a : Int) (n : Nat) : (downto a n).length = n := by unfold downto; simp
theorem downto_get {a : Int} {n i : Nat} (h : i < n) : (downto a n)[i]? = some (.im (.int (a + (i : Int) * (-1)))) := by unfold downto; simp [h]
theorem iv_range3 {ta : TA} (h : EvA ta ρ μ fun as μ1 => ∃ a b : Int, as = [.im (.int a), .im (.int b), .im (.int (-1))] ∧ (-(2 ^ 62) ≤ a ∧ a < 2 ^ 62 ∧ -(2 ^ 62) ≤ b ∧ b < 2 ^ 62) ∧ ki (downto a (a - b).toNat) free μ1) : Iv (iRng3 ta) ρ μ ki := fun S σ H c e R q =>
  h S σ H c e _ fun as μ1 vs S1 H1 ⟨x, y, ea, ⟨h1, h2, h3, h4⟩, hk⟩ c1 s1 sv => by
    subst ea
    cases sv with
    | cons a b =>
      cases b with
      | cons b b' =>
        cases b' with
        | cons b' b'' =>
          cases b''
          cases a
          cases b
          cases b'
          refine ⟨x, y, -1, _, rfl, RgC.neg h1 h2 h3 h4, q _ _ μ1 _ [] S1 H1 hk c1 s1 (fun _ z => nomatch z) fun μ S H c gh hg => ?_⟩
          rw [downto_len]
          refine ⟨fun i h => h, Nat.le_refl _, fun i z H' hi y => ?_⟩
          obtain ⟨e1, e2⟩ := y
          subst e1 e2
          exact ⟨_, downto_get hi, fun _ _ h => h, Da.int _⟩
/-- a list or tuple -/
def iSeq (K : PySem.W.Frag) (tl : TE) : TI := fun σ H R => tl σ H fun x H1 => ∃ a, x = .ref a ∧ (((∃ xs, SqL K H1 a xs) ∧ R (Itl K a) H1) ∨ ((∃ xs, SqT K H1 a xs) ∧ R (Itt K a) H1))
theorem pi_seq {X : Cx} {tg l : Expr} {tl : TE} (hl : PE X l tl) : PI X tg l (iSeq X.K tl) := by
  refine ⟨fun pins s σ H R I h => ?_⟩
  refine thn (hl.run pins s σ H _ I h) fun v s1 ⟨x, H1, I1, r1, q1⟩ => ?_
  obtain ⟨a, e, q1⟩ := q1
  subst e
  cases r1
  rcases q1 with ⟨⟨xs, hq⟩, q⟩ | ⟨⟨xs, hq⟩, q⟩
  · obtain ⟨its, rv, p, hz⟩ := I1.list hq
    refine wpAny_pyIter_list p.isList ?_
    refine ⟨s1.heap.objs.size, [s1.heap.objs.size], _, _, H1, rfl, I1.kept (t' := s1.toks) fun b o e => Heap.get?_push_of_some _ e, turn_list a _, ⟨_, Heap.get?_push_size _ rfl, rfl, rfl⟩, fun b hb => ?_, q⟩
    have e : b = s1.heap.objs.size := by simpa using hb
    subst e
    exact I1.fpOk (Nat.le_refl _) (I1.hok.fresh (Nat.le_refl _))
  · obtain ⟨its, rv, p, hz⟩ := I1.tuple hq
    refine wpAny_pyIter_tuple (show s1.heap.IsTuple a its.toArray from p) ?_
    refine ⟨s1.heap.objs.size, [s1.heap.objs.size], _, _, H1, rfl, I1.kept (t' := s1.toks) fun b o e => Heap.get?_push_of_some _ e, turn_tuple a _, ⟨_, Heap.get?_push_size _ rfl, rfl, rfl⟩, fun b hb => ?_, q⟩
    have e : b = s1.heap.objs.size := by simpa using hb
    subst e
    exact I1.fpOk (Nat.le_refl _) (I1.hok.fresh (Nat.le_refl _))
theorem it_list {a : Addr} {x : SD} {items : List SD} {gh : List (V × SD)} {Gd : Store → Prop} (hm : (V.ref a, x) ∈ gh) (hl : ∀ μ, Gd μ → LV μ x items) : ItOk (Itl K a) items gh Gd := fun μ S H c hg gd => by
  obtain ⟨b, vs, e, h1, h2⟩ := (hl μ gd).at_ c (hg _ hm)
  have e' : a = b := V.ref.inj e
  subst e'
  have hs : SqL K H a vs := .of h1
  have get : ∀ i, i < items.length → ∃ v y, vs[i]? = some v ∧ items[i]? = some y ∧ SV S H v y := fun i hi => by
    obtain ⟨v, a1, a2⟩ := svs_get h2 (List.getElem?_eq_getElem hi)
    exact ⟨v, _, a1, List.getElem?_eq_getElem hi, a2⟩
  refine ⟨fun i hi => ?_, ⟨vs, hs, by rw [svs_len h2]; exact Nat.le_refl _⟩, fun i z H' hi y => ?_⟩
  · obtain ⟨v, y, a1, _, _⟩ := get i hi
    exact ⟨vs, v, hs, a1⟩
  · obtain ⟨v, y', a1, a2, a3⟩ := get i hi
    obtain ⟨e1, e2⟩ := y
    subst e1
    have := (e2 vs hs).symm.trans a1
    cases this
    exact ⟨y', a2, fun _ _ h => h, a3⟩
theorem it_tup {a : Addr} {ds : List PyData} {gh : List (V × SD)} (hm : (V.ref a, SD.im (.tuple ds)) ∈ gh) : ItOk (Itt K a) (ds.map .im) gh free := fun μ S H c hg gd => by
  have sv := hg _ hm
  cases sv with
  | tup h1 na da =>
    have h2 := da_ims da
    have hs : SqT K H a _ := .of h1
    have get : ∀ i, i < (ds.map SD.im).length → ∃ v y, _ ∧ (ds.map SD.im)[i]? = some y ∧ SV S H v y := fun i hi => by
      obtain ⟨v, a1, a2⟩ := svs_get h2 (List.getElem?_eq_getElem hi)
      exact ⟨v, _, a1, List.getElem?_eq_getElem hi, a2⟩
    refine ⟨fun i hi => ?_, ⟨_, hs, by rw [svs_len h2]; exact Nat.le_refl _⟩, fun i z H' hi y => ?_⟩
    · obtain ⟨v, y, a1, _, _⟩ := get i hi
      exact ⟨_, v, hs, a1⟩
    · obtain ⟨v, y', a1, a2, a3⟩ := get i hi
      obtain ⟨e1, e2⟩ := y
      subst e1
      have := (e2 _ hs).symm.trans a1
      cases this
      exact ⟨y', a2, fun _ _ h => h, a3⟩
theorem it_sc {a : Addr} {ns : List Int} {P : Addr → Prop} {gh : List (V × SD)} (hP : ∀ a H, P a → SqL K H a (ns.map V.int)) (hm : (V.ref a, SD.sc ns P) ∈ gh) : ItOk (Itl K a) (ns.map fun n => .im (.int n)) gh free := fun μ S H c hg gd => by
  obtain ⟨b, e, hs⟩ := sc_at hP (hg _ hm)
  have e' : a = b := V.ref.inj e
  subst e'
  refine ⟨fun i hi => ?_, ⟨_, hs, by rw [List.length_map, List.length_map]; exact Nat.le_refl _⟩, fun i z H' hi y => ?_⟩
  · rw [List.length_map] at hi
    exact ⟨_, _, hs, by rw [List.getElem?_map, List.getElem?_eq_getElem hi]; rfl⟩
  · rw [List.length_map] at hi
    obtain ⟨e1, e2⟩ := y
    subst e1
    have g := e2 _ hs
    rw [List.getElem?_map, List.getElem?_eq_getElem hi] at g
    cases g
    exact ⟨.im (.int ns[i]), by rw [List.getElem?_map, List.getElem?_eq_getElem hi]; rfl, fun _ _ h => h, Da.int _⟩
theorem iv_seqG {tl : TE} (h : Ev tl ρ μ fun x μ1 => (∃ items Gd, LV μ1 x items ∧ (∀ μ', Gd μ' → LV μ' x items) ∧ ki items Gd μ1) ∨ (∃ ds, x = .im (.tuple ds) ∧ ki (ds.map .im) free μ1)) : Iv (iSeq K tl) ρ μ ki := fun S σ H c e R q =>
  h S σ H c e _ fun x μ1 v S1 H1 hh c1 s1 sv => by
    rcases hh with ⟨items, Gd, h1, h2, hk⟩ | ⟨ds, rfl, hk⟩
    · obtain ⟨a, vs, rfl, ea, pa⟩ := h1.at_ c1 sv
      exact ⟨a, rfl, .inl ⟨⟨vs, .of ea⟩, q _ _ μ1 _ [(.ref a, x)] S1 H1 hk c1 s1 (fun p hp => by cases List.mem_singleton.mp hp; exact sv) (it_list (List.mem_singleton.mpr rfl) h2)⟩⟩
    · obtain ⟨a, xs, rfl, ea, _, _⟩ := da_tup sv
      exact ⟨a, rfl, .inr ⟨⟨xs, .of ea⟩, q _ _ μ1 _ [(.ref a, .im (.tuple ds))] S1 H1 hk c1 s1 (fun p hp => by cases List.mem_singleton.mp hp; exact sv) (it_tup (List.mem_singleton.mpr rfl))⟩⟩
theorem iv_sc {tl : TE} (h : Ev tl ρ μ fun x μ1 => ∃ ns P, x = .sc ns P ∧ (∀ a H, P a → SqL K H a (ns.map V.int)) ∧ ki (ns.map fun n => .im (.int n)) free μ1) : Iv (iSeq K tl) ρ μ ki := fun S σ H c e R q =>
  h S σ H c e _ fun x μ1 v S1 H1 ⟨ns, P, ex, hP, hk⟩ c1 s1 sv => by
    subst ex
    obtain ⟨a, rfl, hs⟩ := sc_at hP sv
    exact ⟨a, rfl, .inl ⟨⟨_, hs⟩, q _ _ μ1 _ [(.ref a, .sc ns P)] S1 H1 hk c1 s1 (fun p hp => by cases List.mem_singleton.mp hp; exact sv) (it_sc hP (List.mem_singleton.mpr rfl))⟩⟩
theorem iv_list {tl : TE} (h : Ev tl ρ μ fun x μ1 => ∃ ds, x = .im (.list ds) ∧ ki (ds.map .im) free μ1) : Iv (iSeq K tl) ρ μ ki := iv_seqG (h.mono fun x μ1 ⟨ds, e, q⟩ => .inl ⟨_, free, by rw [e]; exact .d ds, fun μ' _ => by rw [e]; exact .d ds, q⟩)
theorem iv_tup {tl : TE} (h : Ev tl ρ μ fun x μ1 => ∃ ds, x = .im (.tuple ds) ∧ ki (ds.map .im) free μ1) : Iv (iSeq K tl) ρ μ ki := iv_seqG (h.mono fun x μ1 q => .inr q)
theorem iv_cell {tl : TE} (h : Ev tl ρ μ fun x μ1 => ∃ a xs, x = .mt a ∧ (a, Cell.lst xs) ∈ μ1 ∧ ki xs (fun μ' => (a, Cell.lst xs) ∈ μ') μ1) : Iv (iSeq K tl) ρ μ ki :=
  iv_seqG (h.mono fun x μ1 ⟨a, xs, e, hm, q⟩ => .inl ⟨xs, _, by rw [e]; exact .c hm, fun μ' z => by rw [e]; exact .c z, q⟩)
/-- enumerate(list) -/
theorem iv_enum {ta : TA} (h : EvA ta ρ μ fun as μ1 => ∃ ds, as = [.im (.list ds)] ∧ ki (ds.mapIdx fun i d => .im (.tuple [.int i, d])) free μ1) : Iv (iEnum K ta) ρ μ ki := fun S σ H c e R q =>
  h S σ H c e _ fun as μ1 vs S1 H1 ⟨ds, ea, hk⟩ c1 s1 sv => by
    subst ea
    cases sv with
    | cons sa sb =>
      cases sb
      obtain ⟨a, xs, rfl, ea, _, _⟩ := da_lst sa
      refine ⟨a, xs, rfl, .of ea, q _ _ μ1 _ [(.ref a, .im (.list ds))] S1 H1 hk c1 s1 (fun p hp => by cases List.mem_singleton.mp hp; exact sa) fun μ S H c hg _ => ?_⟩
      have sv := hg _ (List.mem_singleton.mpr rfl)
      cases sv with
      | lst h1 na da =>
        have hs : SqL K H a _ := .of h1
        have h2 := da_ims da
        rw [List.length_mapIdx]
        have get : ∀ i, i < ds.length → ∃ v d, _ ∧ ds[i]? = some d ∧ Da S H v d := fun i hi => by
          have e : (ds.map SD.im)[i]? = some (.im ds[i]) := by rw [List.getElem?_map, List.getElem?_eq_getElem hi]; rfl
          obtain ⟨v, a1, a2⟩ := svs_get h2 e
          exact ⟨v, _, a1, List.getElem?_eq_getElem hi, a2⟩
        refine ⟨fun i hi => ?_, ⟨_, hs, by rw [da.len]; exact Nat.le_refl _⟩, fun i z H' hi y => ?_⟩
        · obtain ⟨v, y, a1, _, _⟩ := get i hi
          exact ⟨_, v, hs, a1⟩
        · obtain ⟨v, d, a1, a2, a3⟩ := get i hi
          obtain ⟨T, y, rfl, nT, rfl, e2⟩ := y
          have := (e2 _ hs).symm.trans a1
          cases this
          refine ⟨.im (.tuple [.int i, d]), by rw [List.getElem?_mapIdx, a2]; rfl, ex_new nT, ?_⟩
          have st := c.ex_step (ex_new (o := .tup [.int (i : Nat), v]) nT)
          exact Da.tup upd_same (c.fresh nT) (.cons (Da.int _) (.cons (a3.step st) .nil))
/-- zip of two tuples -/
theorem iv_zipT {ta : TA} (h : EvA ta ρ μ fun as μ1 => ∃ ds es, as = [.im (.tuple ds), .im (.tuple es)] ∧ ds.length = es.length ∧ ki ((ds.zip es).map fun p => .im (.tuple [p.1, p.2])) free μ1) : Iv (RZ.iZipA K ta) ρ μ ki := fun S σ H c e R q =>
  h S σ H c e _ fun as μ1 vs S1 H1 ⟨ds, es, ea, hl, hk⟩ c1 s1 sv => by
    subst ea
    cases sv with
    | cons sa sb =>
      cases sb with
      | cons sb sc =>
        cases sc
        obtain ⟨a, xs, rfl, ea, _, _⟩ := da_tup sa
        obtain ⟨b, ys, rfl, eb, _, _⟩ := da_tup sb
        refine ⟨a, b, xs, ys, rfl, .inr ⟨.of ea, .of eb, q _ _ μ1 _ [(.ref a, .im (.tuple ds)), (.ref b, .im (.tuple es))] S1 H1 hk c1 s1 (fun p hp => ?_) fun μ S H c hg _ => ?_⟩⟩
        · rcases List.mem_cons.mp hp with e | hp
          · rw [e]; exact sa
          · cases List.mem_singleton.mp hp; exact sb
        · have va := hg _ List.mem_cons_self
          have vb := hg _ (List.mem_cons_of_mem _ (List.mem_singleton.mpr rfl))
          cases va with
          | tup h1 na da =>
            cases vb with
            | tup h1' nb db =>
              have hs : SqT K H a _ := .of h1
              have hs' : SqT K H b _ := .of h1'
              have len : ((ds.zip es).map fun p : PyData × PyData => SD.im (.tuple [p.1, p.2])).length = ds.length := by
                rw [List.length_map, List.length_zip, hl, Nat.min_self]
              rw [len]
              have get : ∀ i, i < ds.length → ∃ v d, _ ∧ ds[i]? = some d ∧ Da S H v d := fun i hi => by
                have e : (ds.map SD.im)[i]? = some (.im ds[i]) := by rw [List.getElem?_map, List.getElem?_eq_getElem hi]; rfl
                obtain ⟨v, a1, a2⟩ := svs_get (da_ims da) e
                exact ⟨v, _, a1, List.getElem?_eq_getElem hi, a2⟩
              have get' : ∀ i, i < es.length → ∃ v d, _ ∧ es[i]? = some d ∧ Da S H v d := fun i hi => by
                have e : (es.map SD.im)[i]? = some (.im es[i]) := by rw [List.getElem?_map, List.getElem?_eq_getElem hi]; rfl
                obtain ⟨v, a1, a2⟩ := svs_get (da_ims db) e
                exact ⟨v, _, a1, List.getElem?_eq_getElem hi, a2⟩
              refine ⟨fun i hi => ?_, ⟨_, _, hs, hs', .inl (by rw [da.len]; exact Nat.le_refl _)⟩, fun i z H' hi y => ?_⟩
              · obtain ⟨v, y, a1, _, _⟩ := get i hi
                obtain ⟨v', y', a1', _, _⟩ := get' i (by omega)
                exact ⟨_, _, v, v', hs, hs', a1, a1'⟩
              · obtain ⟨v, d, a1, a2, a3⟩ := get i hi
                obtain ⟨v', d', a1', a2', a3'⟩ := get' i (by omega)
                obtain ⟨T, y1, y2, rfl, nT, rfl, e1, e2⟩ := y
                have := (e1 _ hs).symm.trans a1
                cases this
                have := (e2 _ hs').symm.trans a1'
                cases this
                refine ⟨.im (.tuple [d, d']), ?_, ex_new nT, ?_⟩
                · have ez : (ds.zip es)[i]? = some (d, d') := List.getElem?_zip_eq_some.mpr ⟨a2, a2'⟩
                  rw [List.getElem?_map, ez]; rfl
                · have st := c.ex_step (ex_new (o := .tup [v, v']) nT)
                  exact Da.tup upd_same (c.fresh nT) (.cons (a3.step st) (.cons (a3'.step st) .nil))
end
end J
/-! J3: loops, comprehensions, calls, defs over J0 to J2. -/
namespace J
open PySem PySem.Spec PyProof.Rows L2
section
variable {g : G} {D : Ends} {ρ ρ' : Ren} {μ μ' : Store} {σ : L2.St} {H : Hp} {S : Av} {te ta tb : TE} {tt : TT} {t u tbo : TS} {k : SD → Store → Prop} {K : PySem.W.Frag} {wi : TI} {tg : TG}
/-! ### loops -/
/-- the ends within a loop's body -/
abbrev inLoop (g : G) (D : Ends) (P : Ren → Store → Prop) : Ends := { D with nx := Nx g P, ct := Nx g P, bk := D.nx }
theorem go_for (vs : List Nat) (h : Iv wi ρ μ fun items Gd μ1 => ∃ W : Nat → Ren → Store → Prop, W 0 ρ μ1 ∧
      (∀ i x ρ' μ', items[i]? = some x → W i ρ' μ' → Gd μ' ∧ ∀ gh, Tg tg x ρ' μ' vs fun ρ2 μ2 => Go (g.add gh) tbo (inLoop (g.add gh) D (W (i + 1))) ρ2 μ2) ∧
      ∀ ρ' μ', W items.length ρ' μ' → Gd μ' ∧ Nxt g D.nx ρ' μ') : Go g (tFor wi tg tbo) D ρ μ := fun σ H ⟨S, c, st, e, gg, l⟩ => by
  refine h S σ H c e _ fun items Gd μ1 J gh S1 H1 hk c1 s1 hg it => ?_
  obtain ⟨W, w0, turn, fin⟩ := hk
  have s0 : State (g.add gh) ρ μ1 σ H1 := ⟨S1, c1, st.trans s1, e.step s1, fun p hp => (List.mem_append.mp hp).elim (hg p) fun hp => (gg p hp).step s1, l⟩
  refine ⟨fun i m σ' H' => m + i = items.length ∧ ∃ ρ' μ', W i ρ' μ' ∧ State (g.add gh) ρ' μ' σ' H', ⟨items.length, rfl, ρ, μ1, w0, s0⟩, ?_⟩
  rintro i m σ' H' ⟨hm, ρ', μ', w, s'⟩
  obtain ⟨S', c', st', e', gg', l'⟩ := id s'
  have hgh : ∀ p ∈ gh, SV S' H' p.1 p.2 := fun p hp => gg' p (List.mem_append_left _ hp)
  by_cases hi : i < items.length
  · obtain ⟨gd, hb⟩ := turn i items[i] ρ' μ' (List.getElem?_eq_getElem hi) w
    obtain ⟨i1, i2, i3⟩ := it μ' S' H' c' hgh gd
    refine .inr ⟨i1 i hi, Nx (g.add gh) (W (i + 1)), fun σ2 H2 ⟨ρ2, μ2, w2, s2⟩ => ⟨m - 1, by omega, by omega, ρ2, μ2, w2, s2⟩, fun x H2 y => ?_⟩
    obtain ⟨d, e1, k1, sv⟩ := i3 i x H2 hi y
    rw [List.getElem?_eq_getElem hi] at e1
    cases e1
    have sx := c'.ex_step k1
    refine hb gh S' σ' H2 x (c'.ex k1) (e'.step sx) sv _ fun ρ2 μ2 S2 H3 σ2 hk2 c2 s2 e2 _ => ?_
    have s3 := sx.trans s2
    exact hk2 σ2 H3 ⟨S2, c2, st'.trans s3, e2, fun p hp => (gg' p hp).step s3, l'⟩
  · have hi' : i = items.length := by omega
    subst hi'
    obtain ⟨gd, hn⟩ := fin ρ' μ' w
    exact .inl ⟨(it μ' S' H' c' hgh gd).2.1, hn σ' H' s'.ungh⟩
theorem go_while (W : Nat → Ren → Store → Prop) (m : Nat) (h0 : W m ρ μ) (hs : ∀ m ρ' μ', W m ρ' μ' → EvT tt ρ' μ' fun b μ2 =>
      (b = true → Go g tbo (inLoop g D fun ρ2 μ3 => ∃ m', m' < m ∧ W m' ρ2 μ3) ρ' μ2) ∧ (b = false → Nxt g D.nx ρ' μ2)) : Go g (tWhile tt tbo) D ρ μ := fun σ H s => by
  refine ⟨fun m σ' H' => ∃ ρ' μ', W m ρ' μ' ∧ State g ρ' μ' σ' H', ⟨m, ρ, μ, h0, s⟩, ?_⟩
  rintro m σ' H' ⟨ρ', μ', w, s'⟩
  refine st_evT s' (hs m ρ' μ' w) fun b μ2 H2 hb s2 => ?_
  cases b with
  | true =>
    refine ⟨Nx g fun ρ2 μ3 => ∃ m', m' < m ∧ W m' ρ2 μ3, fun σ3 H3 ⟨ρ3, μ3, ⟨m', hm, w3⟩, s3⟩ => ⟨m', hm, ρ3, μ3, w3, s3⟩, hb.1 rfl σ' H2 s2⟩
  | false => exact hb.2 rfl σ' H2 s2
theorem go_break (h : Nxt g D.bk ρ μ) : Go g tBreak D ρ μ := h
/-! ### comprehensions -/
def wipeR (ρ : Ren) : List Nat → Ren
  | [] => ρ
  | v :: vs => (wipeR ρ vs).set v none
theorem Em.wipe (e : Em S H ρ σ) : ∀ vs, Em S H (wipeR ρ vs) (wipe σ vs)
  | [] => e
  | v :: vs => (Em.wipe e vs).unset v none
theorem wipe_wipe {σ : L2.St} : ∀ vs : List Nat, wipe (wipe σ vs) vs = wipe σ vs := by
  have aux : ∀ (ws vs : List Nat), (∀ i ∈ ws, i ∈ vs) → wipe (wipe σ ws) vs = wipe σ vs := by
    intro ws
    induction ws with
    | nil => intro vs _; rfl
    | cons w ws ih =>
      intro vs hs
      show wipe ((wipe σ ws).set w none) vs = wipe σ vs
      rw [wipe_set (hs w List.mem_cons_self), ih vs fun i hi => hs i (List.mem_cons_of_mem _ hi)]
  exact fun vs => aux vs vs fun _ h => h
theorem ev_lc {vs : List Nat} (h : Iv wi ρ μ fun items Gd μ1 => ∃ W : Nat → List SD → Store → Prop, W 0 [] μ1 ∧
      (∀ i x acc μ', items[i]? = some x → W i acc μ' → Gd μ' ∧ acc.length < sizeLine ∧ Tg tg x (wipeR ρ vs) μ' vs fun ρ2 μ2 => EvT tt ρ2 μ2 fun b μ3 => (b = true → Ev te ρ2 μ3 fun y μ4 => W (i + 1) (acc ++ [y]) μ4) ∧ (b = false → W (i + 1) acc μ3)) ∧
      ∀ acc μ', W items.length acc μ' → Gd μ' ∧ NewL k μ' acc) : Ev (tLc wi tg tt te vs) ρ μ k := fun S σ H c e Q p => by
  refine h S σ H c e _ fun items Gd μ1 J gh S1 H1 hk c1 s1 hg it D hD => ?_
  obtain ⟨W, w0, turn, fin⟩ := hk
  have nS1 : ¬ S1 D := c1.fresh hD
  have nM1 : ¬ dm μ1 D := fun z => nS1 (c1.le D z)
  -- the list in the making stands at D
  let P : Nat → Hp → Prop := fun i H' => ∃ acc μ' ws S', W i acc μ' ∧ Core S' μ' H' ∧ S' D ∧ ¬ dm μ' D ∧ Step S1 (dm μ1) H1 S' (dm μ') H' ∧ H' D = some (.lst ws) ∧ SVs S' H' ws acc
  have st0 : Step S1 (dm μ1) H1 (plus S1 D) (dm μ1) (upd H1 D (.lst [])) := ⟨c1.le, fun b o eb _ => ex_new hD b o eb, fun a z => z.elim .inl fun z => .inr (by rw [z]; exact hD), fun a z => .inl z, fun a z => .inl z⟩
  have c0 : Core (plus S1 D) μ1 (upd H1 D (.lst [])) := by
    have q := c1.ex (ex_new (o := .lst []) hD)
    refine ⟨fun p hp => (c1.cells p hp).step st0 fun o eo => ex_new hD _ _ eo, fun p hp => .inl (c1.dom p hp), c1.nd, fun a ha => ?_⟩
    rcases ha with ha | ha
    · exact q.live a ha
    · rw [ha, upd_same]; intro z; cases z
  have p0 : P 0 (upd H1 D (.lst [])) := ⟨[], μ1, [], plus S1 D, w0, c0, .inr rfl, nM1, st0, upd_same, .nil⟩
  refine ⟨fun i m H' => m + i = items.length ∧ P i H', ⟨items.length, rfl, p0⟩, ?_⟩
  rintro i m H' ⟨hm, acc, μ', ws, S', w, c', sD, nD, s', eD, hacc⟩
  have hgh : ∀ p ∈ gh, SV S' H' p.1 p.2 := fun p hp => (hg p hp).step s'
  by_cases hi : i < items.length
  · obtain ⟨gd, hlen, hb⟩ := turn i items[i] acc μ' (List.getElem?_eq_getElem hi) w
    obtain ⟨i1, i2, i3⟩ := it μ' S' H' c' hgh gd
    refine .inr ⟨i1 i hi, P (i + 1), fun H2 p2 => ⟨m - 1, by omega, by omega, p2⟩, fun x H2 y => ?_⟩
    obtain ⟨d, e1, k1, sv⟩ := i3 i x H2 hi y
    rw [List.getElem?_eq_getElem hi] at e1
    cases e1
    have sx := c'.ex_step k1
    have e0 : Em S' H2 (wipeR ρ vs) (wipe σ vs) := (((e.wipe vs).step s1).step s').step sx
    refine hb S' (wipe σ vs) H2 x (c'.ex k1) e0 sv _ fun ρ2 μ2 S2 H3 σ2 hk2 c2 s2 e2 w2 => ⟨w2.trans (wipe_wipe vs), ?_⟩
    have s3 := sx.trans s2
    -- D stands through whatever the block does
    have keepD : ∀ {μ3 : Store} {S3 : Av} {H4 : Hp}, Step S' (dm μ') H' S3 (dm μ3) H4 → H4 D = some (.lst ws) ∧ S3 D ∧ ¬ dm μ3 D := fun {μ3 S3 H4} st => by
      refine ⟨st.keep D _ eD nD, st.sub D sD, fun z => ?_⟩
      rcases st.growM D z with z | z
      · exact nD z
      · rw [eD] at z; cases z
    refine hk2 S2 σ2 H3 c2 e2 _ fun b μ3 S3 H4 hb3 c3 s4 => ?_
    have s5 := s3.trans s4
    cases b with
    | true =>
      refine hb3.1 rfl S3 σ2 H4 c3 (e2.step s4) _ fun r μ4 v S4 H5 hw c4 s6 sv4 => ?_
      have s7 := s5.trans s6
      obtain ⟨k7, d7, n7⟩ := keepD s7
      have st8 : Step S4 (dm μ4) H5 S4 (dm μ4) (upd H5 D (.lst (ws ++ [v]))) → True := fun _ => trivial
      -- D is written
      have keep8 : ∀ b o, H5 b = some o → b ≠ D → upd H5 D (.lst (ws ++ [v])) b = some o := fun b o eb nb => by rw [upd_ne nb]; exact eb
      have da8 : ∀ {w : V} {z : SD}, SV S4 H5 w z → SV S4 (upd H5 D (.lst (ws ++ [v]))) w z := fun {w z} q => by
        have s' : Step S4 S4 H5 S4 S4 (upd H5 D (.lst (ws ++ [v]))) := ⟨fun _ h => h, fun b o eb n => keep8 b o eb fun z => n (by rw [z]; exact d7), fun _ h => .inl h, fun _ h => .inl h, fun _ h => h⟩
        exact q.step s'
      refine ⟨ws, k7, by rw [svs_len hacc]; exact hlen, acc ++ [r], μ4, ws ++ [v], S4, hw, ?_, d7, n7, ?_, upd_same, ?_⟩
      · refine ⟨fun q hq => ?_, c4.dom, c4.nd, fun a ha => ?_⟩
        · have nq : q.1 ≠ D := fun z => n7 (by rw [← z]; exact List.mem_map.mpr ⟨q, hq, rfl⟩)
          have s' : Step S4 S4 H5 S4 S4 (upd H5 D (.lst (ws ++ [v]))) := ⟨fun _ h => h, fun b o eb n => keep8 b o eb fun z => n (by rw [z]; exact d7), fun _ h => .inl h, fun _ h => .inl h, fun _ h => h⟩
          exact (c4.cells q hq).step s' fun o eo => keep8 _ _ eo nq
        · by_cases ea : a = D
          · rw [ea, upd_same]; intro z; cases z
          · rw [upd_ne ea]; exact c4.live a ha
      · have s9 := s'.trans s7
        refine ⟨s9.le, fun b o eb n => ?_, s9.grow, s9.growM, s9.sub⟩
        have nb : b ≠ D := fun z => by rw [z, hD] at eb; cases eb
        rw [upd_ne nb]
        exact s9.keep b o eb n
      · exact svs_app (Paired.mapP (SVs.step hacc s7) fun _ _ q => da8 q) (.cons (da8 sv4) .nil)
    | false =>
      obtain ⟨k5, d5, n5⟩ := keepD s5
      exact ⟨acc, μ3, ws, S3, hb3.2 rfl, c3, d5, n5, s'.trans s5, k5, SVs.step hacc s5⟩
  · have hi' : i = items.length := by omega
    subst hi'
    obtain ⟨gd, hn⟩ := fin acc μ' w
    refine .inl ⟨(it μ' S' H' c' hgh gd).2.1, ?_⟩
    have hp := p.after s1
    rcases hn with ⟨ds, rfl, hk⟩ | hk
    · -- a datum: D is let out of what is avoided
      have less : ∀ a, (S' a ∧ a ≠ D) → S' a := fun a h => h.1
      refine hp (.im (.list ds)) μ' (.ref D) (fun a => S' a ∧ a ≠ D) H' hk ⟨fun q hq => (c'.cells q hq).less less, fun q hq => ⟨c'.dom q hq, fun z => nD (by rw [← z]; exact List.mem_map.mpr ⟨q, hq, rfl⟩)⟩, c'.nd, fun a h => c'.live a h.1⟩
        ⟨s'.le, s'.keep, fun a h => s'.grow a h.1, s'.growM, fun a h => ⟨s'.sub a h, fun z => nS1 (by rw [← z]; exact h)⟩⟩ ?_
      exact Da.lst eD (fun z => z.2 rfl) (ims_da (SVs.less hacc less))
    · refine hp (.mt D) ((D, .lst acc) :: μ') (.ref D) S' H' (hk D) ⟨fun q hq => ?_, fun q hq => ?_, ?_, c'.live⟩ ⟨s'.le, s'.keep, s'.grow, fun a h => ?_, s'.sub⟩ rfl
      · rcases List.mem_cons.mp hq with e | hq
        · rw [e]; exact ⟨ws, eD, hacc⟩
        · exact c'.cells q hq
      · rcases List.mem_cons.mp hq with e | hq
        · rw [e]; exact sD
        · exact c'.dom q hq
      · rw [List.map_cons, List.nodup_cons]
        exact ⟨nD, c'.nd⟩
      · rcases dm_cons.mp h with e | h
        · exact .inr (by rw [e]; exact hD)
        · exact s'.growM a h
/-- [f x for x in ..], no test, nothing changes -/
theorem ev_map {vs : List Nat} (h : Iv wi ρ μ fun items Gd μ1 => ∃ f : Nat → PyData, Gd μ1 ∧ items.length < sizeLine ∧
      (∀ i x, items[i]? = some x → Tg tg x (wipeR ρ vs) μ1 vs fun ρ2 μ2 => Ev te ρ2 μ2 fun y μ4 => y = .im (f i) ∧ μ4 = μ1) ∧ NewL k μ1 ((List.range items.length).map fun i => .im (f i))) : Ev (tLc wi tg tYes te vs) ρ μ k :=
  ev_lc fun S σ H c e R q => h S σ H c e R fun items Gd μ' J gh S' H' ⟨f, gd, hl, turn, fin⟩ c' s' hg it =>
    q items Gd μ' J gh S' H' ⟨fun i acc μ2 => μ2 = μ' ∧ i ≤ items.length ∧ acc = (List.range i).map fun j => .im (f j), ⟨rfl, Nat.zero_le _, rfl⟩, fun i x acc μ2 hx ⟨e2, hi, ea⟩ => by
      have hi' := (List.getElem?_eq_some_iff.mp hx).1
      subst e2 ea
      refine ⟨gd, by rw [List.length_map, List.length_range]; omega, fun S σ H v c e sv Q p => turn i x hx S σ H v c e sv Q fun ρ2 μ3 S2 H2 σ2 hk => p ρ2 μ3 S2 H2 σ2 ?_⟩
      refine fun S σ H c e Q p => p true μ3 S H ⟨fun _ => hk.mono fun y μ4 ⟨ey, em⟩ => ⟨em, hi', ?_⟩, fun z => nomatch z⟩ c c.refl
      rw [ey, List.range_succ, List.map_append]
      rfl, fun acc μ2 ⟨e2, hi, ea⟩ => by
      subst e2 ea
      exact ⟨gd, fin⟩⟩ c' s' hg it
/-! ### defs -/
/-- a def's promise: from its arguments and cells to what is told behind it -/
def SpR (Pre : List SD → Store → (SD → Store → Prop) → Prop) : Sp := fun vs H Q _ => ∃ S μ as k, SVs S H vs as ∧ Core S μ H ∧ Pre as μ k ∧ Post S μ H k Q
theorem ev_call {Pre : List SD → Store → (SD → Store → Prop) → Prop} {E : XK} {ta : TA} (h : EvA ta ρ μ fun as μ1 => ∃ μc rest, μ1.Perm (μc ++ rest) ∧ Pre as μc fun r μ' => k r (μ' ++ rest)) : Ev (tCall (SpR Pre) [] E ta) ρ μ k := fun S σ H c e Q p =>
  h S σ H c e _ fun as μ1 vs S1 H1 ⟨μc, rest, hp, hk⟩ c1 s1 sv => by
    show SpR Pre (vs ++ []) H1 Q E
    rw [List.append_nil]
    have c2 := c1.perm hp.symm
    refine ⟨S1, μc, as, _, sv, c2.drop (List.sublist_append_left _ _), hk, fun r μ' v S' H' hr c' s' sv' => ?_⟩
    obtain ⟨cf, sf⟩ := c2.frame c' s'
    have s0 : Step S1 (dm μ1) H1 S1 (dm (μc ++ rest)) H1 := ⟨c1.le, fun _ _ e _ => e, fun _ h => .inl h, fun a h => .inl ((dm_perm hp a).mpr h), fun _ h => h⟩
    exact p r _ v S' H' hr cf (s1.trans (s0.trans sf)) sv'
/-- nothing changes -/
theorem ev_callP {Pre : List SD → Store → (SD → Store → Prop) → Prop} {E : XK} {ta : TA} (h : EvA ta ρ μ fun as μ1 => Pre as [] fun r μ' => k r (μ' ++ μ1)) : Ev (tCall (SpR Pre) [] E ta) ρ μ k := ev_call fun S σ H c e Q p => h S σ H c e Q fun as μ1 vs S1 H1 hk => p as μ1 vs S1 H1 ⟨[], μ1, .refl _, hk⟩
/-- the first cell alone may change -/
theorem ev_call1 {Pre : List SD → Store → (SD → Store → Prop) → Prop} {E : XK} {ta : TA} (h : EvA ta ρ μ fun as μ1 => ∃ c rest, μ1 = c :: rest ∧ Pre as [c] fun r μ' => k r (μ' ++ rest)) : Ev (tCall (SpR Pre) [] E ta) ρ μ k := ev_call fun S σ H c e Q p => h S σ H c e Q fun as μ1 vs S1 H1 ⟨c, rest, e, hk⟩ => p as μ1 vs S1 H1 ⟨[c], rest, by rw [e]; exact .refl _, hk⟩
abbrev entry (N : List Str) (as : List SD) : Ren := as.map some ++ List.replicate (N.length - as.length) none
theorem em_start {N : List Str} {vs : List V} {as : List SD} (h : SVs S H vs as) : Em S H (entry N as) (L2.start N vs) := by
  have hl := svs_len h
  unfold entry L2.start
  refine ⟨by simp [hl], fun i x hx => ?_⟩
  by_cases hi : i < as.length
  · rw [List.getElem?_append_left (by rw [List.length_map]; exact hi)] at hx
    rw [List.getElem?_append_left (by rw [List.length_map, hl]; exact hi)]
    rw [List.getElem?_map] at hx ⊢
    cases e : as[i]? with
    | none => rw [e] at hx; cases hx
    | some y =>
      rw [e] at hx
      cases hx
      obtain ⟨v, h1, h2⟩ := svs_get h e
      exact ⟨v, by rw [h1]; rfl, h2⟩
  · rw [List.getElem?_append_right (by rw [List.length_map]; omega)] at hx
    rw [List.getElem?_replicate] at hx
    split at hx <;> cases hx
end
/-- a def keeps its promise -/
theorem fn_ok {P : Program} {w : World} {K : PySem.W.Frag} {mg : Str → Option Value} {base : Heap} {x qual : Str} {st : Stmt} {f : Addr} {fd : FuncData} {N ps : List Str} {n : Nat} {Pre : List SD → Store → (SD → Store → Prop) → Prop}
    (F : Fun K x qual st f fd) (sc : FnScope N ps (defScope st)) (len : ∀ as μ k, Pre as μ k → as.length = ps.length)
    (body : ∀ (cdv : Value) (A : Around) (outer : List PySem.Env) (s : Shared) (H : Hp) (E : XK), Room n (A.deeper (envOfC qual (defScope st) s.heap.objs.size f cdv)) →
      ∃ t, PSs (cxOf CX0 P w K mg base N qual (defScope st) f cdv A outer s H E).nox (defBody st) t ∧
        ∀ (as : List SD) (μ : Store) (k : SD → Store → Prop) (g : G) (Q : VK), Pre as μ k → g.M = dm μ → Ret g k Q → Go g t { nx := fun _ H' => Q .non H', rt := Q } (entry N as) μ) : FnOk P w K mg base CX0 (n + 1) f fd ps (SpR Pre) := by
  refine F.ok sc (fun vs H Q E h => ?_) (fun cdv A outer s H vs Q E hr h => ?_)
  · obtain ⟨S, μ, as, k, h1, _, h2, _⟩ := h
    rw [svs_len h1]
    exact len as μ k h2
  · obtain ⟨S, μ, as, k, h1, c, h2, p⟩ := h
    obtain ⟨t, ht, hg⟩ := body cdv A outer s H E hr
    refine ⟨t, ht, hg as μ k ⟨S, dm μ, H, []⟩ Q h2 rfl (fun r μ' v S' H' a b d e => p r μ' v S' H' a b d e) (L2.start N vs) H ⟨S, c, c.refl, em_start h1, (fun p (z : p ∈ ([] : List (V × SD))) => absurd z List.not_mem_nil), c.live⟩⟩
end J
/-! J4: order of data, min, max, sum, sorted, len and other calls of built-ins. -/
namespace J
open PySem PySem.Spec PyProof.Rows L2
/-! ### the order of data -/
mutual
/-- d < e, where Python can say so (cmpD) -/
def ltD : PyData → PyData → Bool
  | .int a, .int b => decide (a < b)
  | .tuple xs, .tuple ys => ltDs xs ys
  | _, _ => false
def ltDs : List PyData → List PyData → Bool
  | [], [] => false
  | [], _ :: _ => true
  | _ :: _, [] => false
  | x :: xs, y :: ys => if PyData.eqv x y = true then ltDs xs ys else ltD x y
end
mutual
def cmpD : PyData → PyData → Bool
  | .int _, .int _ => true
  | .tuple xs, .tuple ys => cmpDs xs ys
  | _, _ => false
def cmpDs : List PyData → List PyData → Bool
  | [], _ => true
  | _ :: _, [] => true
  | x :: xs, y :: ys => if PyData.eqv x y = true then cmpDs xs ys else cmpD x y
end
theorem ltDs_lex : ∀ (xs ys : List PyData) (i : Nat), (∀ j, j < i → True) → ∀ (as bs : List PyData), xs = as.drop i → ys = bs.drop i → i ≤ as.length → i ≤ bs.length →
    Ob.lexAt (fun j => PyData.eqv (as.getD j .none) (bs.getD j .none)) (fun j => ltD (as.getD j .none) (bs.getD j .none)) (decide (as.length < bs.length)) i (min as.length bs.length - i) = ltDs xs ys := by
  intro xs
  induction xs with
  | nil =>
    intro ys i _ as bs ha hb la lb
    have e : as.length = i := by
      have := congrArg List.length ha
      rw [List.length_drop, List.length_nil] at this
      omega
    rw [show min as.length bs.length - i = 0 by omega, Ob.lexAt_zero]
    cases ys with
    | nil =>
      have := congrArg List.length hb
      rw [List.length_drop, List.length_nil] at this
      unfold ltDs
      exact decide_eq_false (by omega)
    | cons y ys =>
      have := congrArg List.length hb
      rw [List.length_drop, List.length_cons] at this
      unfold ltDs
      exact decide_eq_true (by omega)
  | cons x xs ih =>
    intro ys i hi as bs ha hb la lb
    have l1 := congrArg List.length ha
    rw [List.length_drop, List.length_cons] at l1
    cases ys with
    | nil =>
      have l2 := congrArg List.length hb
      rw [List.length_drop, List.length_nil] at l2
      rw [show min as.length bs.length - i = 0 by omega, Ob.lexAt_zero]
      unfold ltDs
      exact decide_eq_false (by omega)
    | cons y ys =>
      have l2 := congrArg List.length hb
      rw [List.length_drop, List.length_cons] at l2
      rw [show min as.length bs.length - i = (min as.length bs.length - (i + 1)) + 1 by omega, Ob.lexAt_succ]
      have hx : as.getD i .none = x := by
        rw [List.getD_eq_getElem?_getD]
        have := List.getElem?_drop (xs := as) (i := i) (j := 0)
        rw [← ha, Nat.add_zero] at this
        rw [← this]
        rfl
      have hy : bs.getD i .none = y := by
        rw [List.getD_eq_getElem?_getD]
        have := List.getElem?_drop (xs := bs) (i := i) (j := 0)
        rw [← hb, Nat.add_zero] at this
        rw [← this]
        rfl
      rw [hx, hy]
      unfold ltDs
      have hxs : xs = as.drop (i + 1) := by
        rw [show as.drop (i + 1) = (as.drop i).drop 1 by rw [List.drop_drop], ← ha]; rfl
      have hys : ys = bs.drop (i + 1) := by
        rw [show bs.drop (i + 1) = (bs.drop i).drop 1 by rw [List.drop_drop], ← hb]; rfl
      rw [ih ys (i + 1) (fun _ _ => trivial) as bs hxs hys (by omega) (by omega)]
theorem cmpDs_at : ∀ (as bs : List PyData), cmpDs as bs = true → ∀ j, j < as.length → j < bs.length → (∀ m, m < j → PyData.eqv (as.getD m .none) (bs.getD m .none) = true) → PyData.eqv (as.getD j .none) (bs.getD j .none) = false → cmpD (as.getD j .none) (bs.getD j .none) = true := by
  intro as
  induction as with
  | nil => intro bs _ j h; simp at h
  | cons a as ih =>
    intro bs h j h1 h2 hm he
    cases bs with
    | nil => simp at h2
    | cons b bs =>
      unfold cmpDs at h
      cases j with
      | zero =>
        have e : PyData.eqv a b = false := he
        rw [e] at h
        exact h
      | succ j =>
        have e : PyData.eqv a b = true := hm 0 (Nat.succ_pos _)
        rw [e, if_pos rfl] at h
        exact ih bs h j (by simpa using h1) (by simpa using h2) (fun m hm' => hm (m + 1) (by omega)) he
theorem depth_at : ∀ (ds : List PyData) (j : Nat), j < ds.length → (ds.getD j .none).depth ≤ PyData.depthAll ds := by
  intro ds
  induction ds with
  | nil => intro j h; simp at h
  | cons d ds ih =>
    intro j h
    simp only [PyData.depthAll]
    cases j with
    | zero => exact Nat.le_max_left _ _
    | succ j => exact Nat.le_trans (ih j (by simpa using h)) (Nat.le_max_right _ _)
theorem lay_at : ∀ (ds : List PyData), PyData.canLayAll0 ds = true → ∀ (j : Nat), j < ds.length → (ds.getD j .none).canLay0 = true := by
  intro ds
  induction ds with
  | nil => intro _ j h; simp at h
  | cons d ds ih =>
    intro hl j h
    have h' : d.canLay0 = true ∧ PyData.canLayAll0 ds = true := by simpa [PyData.canLayAll0] using hl
    cases j with
    | zero => exact h'.1
    | succ j => exact ih h'.2 j (by simpa using h)
theorem reads_at {h : Heap} : ∀ (vs : List Value) (ds : List PyData) (as : List Addr), ReadsAll h vs ds as → ∀ j (hj : j < vs.length), ∃ bs, Reads h vs[j] (ds.getD j .none) bs := by
  intro vs
  induction vs with
  | nil => intro ds as _ j hj; simp at hj
  | cons v vs ih =>
    intro ds as hr j hj
    cases hr with
    | cons a b =>
      cases j with
      | zero => exact ⟨_, a⟩
      | succ j => exact ih _ _ b j (by simpa using hj)
/-- RcOp with the equality of the pairs ahead at hand -/
theorem lex_ext {e e' r r' : Nat → Bool} {z : Bool} : ∀ (k i : Nat), (∀ j, i ≤ j → j < i + k → e j = e' j) → (∀ j, i ≤ j → j < i + k → (∀ m, i ≤ m → m < j → e m = true) → e j = false → r j = r' j) → Ob.lexAt e r z i k = Ob.lexAt e' r' z i k := by
  intro k
  induction k with
  | zero => intro i _ _; rfl
  | succ k ih =>
    intro i he hr
    rw [Ob.lexAt_succ, Ob.lexAt_succ, ← he i (Nat.le_refl _) (by omega)]
    cases q : e i with
    | true =>
      rw [if_pos rfl, if_pos rfl]
      exact ih (i + 1) (fun j h1 h2 => he j (by omega) (by omega)) fun j h1 h2 hm hf => hr j (by omega) (by omega) (fun m a b => by
        by_cases h : m = i
        · rw [h]; exact q
        · exact hm m (by omega) b) hf
    | false =>
      rw [if_neg Bool.false_ne_true, if_neg Bool.false_ne_true]
      exact hr i (Nat.le_refl _) (by omega) (fun m a b => by omega) q
section
open PySem.SeqAt PySem.AutoSeq1 PySem.MeetsSeq PySem.MeetsSeq2 PySem.MeetsSeq3
/-- t < u of two tuples: the pairs ahead of the first unequal one are asked for no order -/
theorem tuple_ltAhead (l b : Addr) (items items2 : Array Value) (n n2 : Nat) (dd dd2 : Option Addr) (sl sl2 : Array (Option Value)) (e r : Nat → Bool) :
    Meets (Builtin.«tuple.__lt__» ⟨[.ref l, .ref b], []⟩)
      (fun A R s => s.heap.get? l = some { cls := .type "tuple", dict := dd, data := .seq items n, slots := sl } ∧ s.heap.get? b = some { cls := .type "tuple", dict := dd2, data := .seq items2 n2, slots := sl2 } ∧
        (∀ j (h1 : j < items.size) (h2 : j < items2.size), EqAt A.in1 s items[j] items2[j] (e j)) ∧
        (∀ j (h1 : j < items.size) (h2 : j < items2.size), (∀ m, m < j → e m = true) → e j = false → Ob.RcOp .Lt A.in1 s items[j] items2[j] (r j)) ∧
        R (.ok (.ret (.bool (Ob.lexAt e r (decide (items.size < items2.size)) 0 (min items.size items2.size))))) s) :=
  .of_wp fun prog w A R s h => by
    obtain ⟨hp, g, d, tk, os⟩ := s; obtain ⟨hl, hb, he, hr, h⟩ := h
    have f2 := AutoSeq1.sub_tuple_tuple
    have hZ : (items.toList.zip items2.toList).length = min items.size items2.size := by simp
    wp_walk using wpAny_loadPart' hl, wpAny_loadPart' hb, wpAny_forIn_list _ (fun rest b s' => b.1 = none ∧ s' = ⟨hp, g, d, tk, os⟩ ∧ ∃ i, rest = (items.toList.zip items2.toList).drop i ∧ (∀ m, m < i → e m = true) ∧
      R (.ok (.ret (.bool (Ob.lexAt e r (decide (items.size < items2.size)) i (min items.size items2.size - i))))) ⟨hp, g, d, tk, os⟩) _
    case turn =>
      rintro ⟨y, x⟩ rest b s' ⟨hb', rfl, i, hz, hm0, hR⟩
      have hlt : i < (items.toList.zip items2.toList).length := by
        rcases Nat.lt_or_ge i (items.toList.zip items2.toList).length with h' | h'
        · exact h'
        · rw [List.drop_of_length_le h'] at hz; cases hz
      have hm : i < min items.size items2.size := hZ ▸ hlt
      have h1 : i < items.size := Nat.lt_of_lt_of_le hm (Nat.min_le_left _ _)
      have h2 : i < items2.size := Nat.lt_of_lt_of_le hm (Nat.min_le_right _ _)
      rw [List.drop_eq_getElem_cons hlt] at hz
      injection hz with hyx hrest
      have hy : y = items[i] := by have := congrArg Prod.fst hyx; simpa using this
      have hx : x = items2[i] := by have := congrArg Prod.snd hyx; simpa using this
      subst hy hx
      rw [show min items.size items2.size - i = (min items.size items2.size - (i + 1)) + 1 by omega, Ob.lexAt_succ] at hR
      refine wpAny_bind (he i h1 h2 prog w _ _ ?_)
      cases hei : e i with
      | true =>
        rw [hei, if_pos rfl] at hR
        wp_walk
        exact ⟨rfl, rfl, i + 1, hrest, (fun m hm => by
          by_cases q : m = i
          · rw [q]; exact hei
          · exact hm0 m (by omega)), hR⟩
      | false =>
        rw [hei, if_neg Bool.false_ne_true] at hR
        have hri := hr i h1 h2 hm0 hei prog w
        wp_walk using hri
        exact ⟨_, rfl, by simpa using hR⟩
    case fin =>
      rintro ⟨b1, b2⟩ s' ⟨hb', rfl, i, hz, hm0, hR⟩
      simp only at hb'
      subst hb'
      have hge : min items.size items2.size ≤ i := by
        rcases Nat.lt_or_ge i (items.toList.zip items2.toList).length with h' | h'
        · rw [List.drop_eq_getElem_cons h'] at hz; cases hz
        · exact hZ ▸ h'
      rw [Nat.sub_eq_zero_of_le hge, Ob.lexAt_zero] at hR
      wp_walk
      exact ⟨_, rfl, by simpa [Builtin.Tuple.tupleCompareSizes] using hR⟩
    case h =>
      exact ⟨rfl, rfl, 0, rfl, (fun m hm => absurd hm (Nat.not_lt_zero _)), by simpa using h⟩
theorem tuples_ltAhead {A : Around} {s : Shared} {l b : Addr} {items items2 : Array Value} {e r : Nat → Bool} (hl : s.heap.IsTuple l items) (hb : s.heap.IsTuple b items2) (hu : A.units < cLine)
    (he : ∀ j (h1 : j < items.size) (h2 : j < items2.size), EqAt A.in1 s items[j] items2[j] (e j))
    (hr : ∀ j (h1 : j < items.size) (h2 : j < items2.size), (∀ m, m < j → e m = true) → e j = false → Ob.RcOp .Lt A.in1 s items[j] items2[j] (r j)) :
    Ob.RcOp .Lt A s (.ref l) (.ref b) (Ob.lexAt e r (decide (items.size < items2.size)) 0 (min items.size items2.size)) := fun prog w E Q h => by
  obtain ⟨⟨cls, dd, data, sl⟩, ho, hc, n, hd⟩ := id hl
  obtain ⟨⟨cls2, dd2, data2, sl2⟩, ho2, hc2, n2, hd2⟩ := id hb
  simp only at hc hd hc2 hd2
  subst hc hd hc2 hd2
  exact richCompare_meets_room (op := .Lt) ⟨_, ho, rfl⟩ ⟨_, ho2, rfl⟩ F.slot_tuple_lt F.entry_tuple_lt (F.args_tuple_lt_2 _ _) (tuple_ltAhead l b items items2 n n2 dd dd2 sl sl2 e r)
    ⟨ho, ho2, he, hr, ⟨(fun x => nomatch x), h⟩⟩ hu
end
theorem lt_reads : ∀ (m : Nat) (d e : PyData), d.depth ≤ m → cmpD d e = true → ∀ (A : Around) (s : Shared) (u v : Value) (as bs : List Addr), Reads s.heap u d as → Reads s.heap v e bs → d.canLay0 = true → e.canLay0 = true →
    A.units + m + 1 < cLine → Ob.RcOp .Lt A s u v (ltD d e) := by
  intro m
  induction m with
  | zero =>
    intro d e hm hc A s u v as bs ru rv _ _ hu
    cases d with
    | int i =>
      cases e with
      | int j =>
        cases ru
        cases rv
        exact Ob.RcOp.lt_int _ _ _ _
      | none => cases hc
      | bool _ => cases hc
      | str _ => cases hc
      | list _ => cases hc
      | tuple _ => cases hc
      | dict _ => cases hc
    | tuple xs => simp [PyData.depth] at hm
    | none => cases e <;> cases hc
    | bool _ => cases e <;> cases hc
    | str _ => cases e <;> cases hc
    | list _ => cases e <;> cases hc
    | dict _ => cases e <;> cases hc
  | succ m ih =>
    intro d e hm hc A s u v as bs ru rv lu lv hu
    cases d with
    | int i =>
      cases e with
      | int j =>
        cases ru
        cases rv
        exact Ob.RcOp.lt_int _ _ _ _
      | none => cases hc
      | bool _ => cases hc
      | str _ => cases hc
      | list _ => cases hc
      | tuple _ => cases hc
      | dict _ => cases hc
    | none => cases e <;> cases hc
    | bool _ => cases e <;> cases hc
    | str _ => cases e <;> cases hc
    | list _ => cases e <;> cases hc
    | dict _ => cases e <;> cases hc
    | tuple xs =>
      cases e with
      | none => cases hc
      | bool _ => cases hc
      | str _ => cases hc
      | list _ => cases hc
      | int _ => cases hc
      | dict _ => cases hc
      | tuple ys =>
        cases ru with
        | tuple ho hcl hd hr =>
          cases rv with
          | tuple ho2 hcl2 hd2 hr2 =>
            rename_i a o vs n b o2 vs2 n2
            have hxs : PyData.canLayAll0 xs = true := lu
            have hys : PyData.canLayAll0 ys = true := lv
            have l1 : vs.toList.length = xs.length := SeqAt.ReadsAll.length xs vs.toList _ hr
            have l2 : vs2.toList.length = ys.length := SeqAt.ReadsAll.length ys vs2.toList _ hr2
            rw [Array.length_toList] at l1 l2
            have dx : PyData.depthAll xs ≤ m := by simp only [PyData.depth] at hm; omega
            have ui : A.in1.units = A.units + 1 := rfl
            have R := tuples_ltAhead (A := A) (s := s) (e := fun j => PyData.eqv (xs.getD j .none) (ys.getD j .none)) (r := fun j => ltD (xs.getD j .none) (ys.getD j .none)) (l := a) (b := b) (items := vs) (items2 := vs2) ⟨o, ho, hcl, n, hd⟩ ⟨o2, ho2, hcl2, n2, hd2⟩ (by omega) (fun j h1 h2 => by
              obtain ⟨as', r1⟩ := reads_at _ _ _ hr j (by simpa using h1)
              obtain ⟨bs', r2⟩ := reads_at _ _ _ hr2 j (by simpa using h2)
              have q := SeqAt.eqAt_reads _ _ A.in1 s _ _ _ _ r1 r2 (lay_at xs hxs j (by omega)) (lay_at ys hys j (by omega)) (by
                have := depth_at xs j (by omega)
                rw [ui]
                omega)
              simpa using q) (fun j h1 h2 hm0 hf => by
              obtain ⟨as', r1⟩ := reads_at _ _ _ hr j (by simpa using h1)
              obtain ⟨bs', r2⟩ := reads_at _ _ _ hr2 j (by simpa using h2)
              have q := ih _ _ (Nat.le_trans (depth_at xs j (by omega)) dx) (cmpDs_at xs ys hc j (by omega) (by omega) hm0 hf) A.in1 s _ _ _ _ r1 r2 (lay_at xs hxs j (by omega)) (lay_at ys hys j (by omega)) (by rw [ui]; omega)
              simpa using q)
            have ex := ltDs_lex xs ys 0 (fun _ _ => trivial) xs ys rfl rfl (Nat.zero_le _) (Nat.zero_le _)
            rw [Nat.sub_zero] at ex
            rw [l1, l2] at R
            show Ob.RcOp .Lt A s (.ref a) (.ref b) (ltDs xs ys)
            rw [← ex]
            exact R
section
variable {X : Cx}
/-- d < e of data -/
def rLtD (K : PySem.W.Frag) : R2 := fun x y H Q => ∃ d e, Dp K H x d ∧ Dp K H y e ∧ SeqAt.shaped d = true ∧ SeqAt.shaped e = true ∧ cmpD d e = true ∧ Q (.bl (ltD d e)) H
theorem op_ltD (hu : X.A.units + 128 < cLine) : OpR X (compareOp .Lt) (rLtD X.K) := by
  intro pins s σ H x y v u Q I rx ry h
  obtain ⟨d, e, hd, he, sd, se, hc, q⟩ := h
  obtain ⟨as, r1⟩ := Dp.reads I d x v hd rx
  obtain ⟨bs, r2⟩ := Dp.reads I e y u he ry
  have := SeqAt.depth_of_shaped sd
  exact lt_reads d.depth d e (Nat.le_refl _) hc X.A s v u as bs r1 r2 (SeqAt.canLay_of_shaped sd) (SeqAt.canLay_of_shaped se) (by omega) X.prog X.w X.xe _ ⟨.bl _, H, I, rfl, q⟩
end
theorem room128 {n : Nat} {A : Around} (h : Room n A) : A.units + 128 < cLine := by have := h.un; omega
end J
/-! J5: min of data, sum, max of tuples, sorted tuples, as calls. -/
namespace PySem
/-- any two items compare as bt says at every heap that keeps what h0 has but wr -/
def CmpAt (prog : Program) (w : World) (A : Around) (h0 : Heap) (wr : List Addr) (op : CmpOp) (P : Nat → Value → Prop) (bt : Nat → Nat → Bool) : Prop :=
  ∀ i j vi vj (s : Shared) (Q : Value → Shared → Prop) (E : Value → Shared → Prop), (∀ b o, b ∉ wr → h0.get? b = some o → s.heap.get? b = some o) → P i vi → P j vj → Q (.bool (bt i j)) s → wpAny (model prog w) A (richCompare op vi vj) Q E s
section
variable {prog : Program} {w : World} {A : Around} {R : Result → Shared → Prop} {I : Addr} {fp wr : List Addr} {n : Nat} {P : Nat → Value → Prop} {St : Nat → Heap → Prop}
theorem min_loopH (h0 : Heap) (W : Walks prog w A.in1 I fp wr n P St) (bt : Nat → Nat → Bool) (hcmp : CmpAt prog w A.in1 h0 wr .Lt P bt) (S : Addr) (hSf : S ∉ fp) (hS0 : h0.get? S = none) :
    ∀ (k j : Nat) (s : Shared) (vb : Value) (c : Nat), n - (j + 1) = k → j + 1 ≤ n → St (j + 1) s.heap → P (argBest bt j) vb → (∀ b o, b ∉ wr → h0.get? b = some o → s.heap.get? b = some o) →
    s.heap.get? S = some { cls := .type "list", dict := none, data := .seq #[vb, vb] c, slots := #[] } →
    (∀ v h' tk, P (argBest bt (n - 1)) v → (∀ b o, b ∉ wr → b ≠ S → s.heap.get? b = some o → h'.get? b = some o) → R (.ok (.ret v)) { s with heap := h', toks := tk }) →
    codeAny (model prog w) A (.builtin "min.loop" ⟨[.ref I, .none, .ref S], []⟩) R s := by
  have hSw : S ∉ wr := fun h => hSf (W.sub _ h)
  have hname : (toString "min" ++ toString ".loop" : String) = "min.loop" := by decide
  have nS : ∀ b o, h0.get? b = some o → S ≠ b := fun b o e z => by rw [z, e] at hS0; cases hS0
  intro k
  induction k with
  | zero =>
    intro j s vb c hk hj hst hPb hkp hS hR
    have hin : j + 1 = n := by omega
    refine codeAny_builtin F.entry_min_loop ?_
    rw [Around.under_plainId F.plain_min_loop _]
    show wpAny _ A.in1 (seqItems? (.ref S) >>= _) _ _ s
    refine wpAny_bind (wpAny_seqItems hS rfl ?_)
    show wpAny _ A.in1 (tryCatch (pyNext (.ref I)) _ >>= _) _ _ s
    refine wpAny_bind (wpAny_tryCatch (W.done s _ _ (hin ▸ hst) fun h' tk hk' => ?_))
    have hS' := hk' S _ hSw hS
    show wpAny _ A.in1 (updateSeq S (fun _ => #[]) >>= _) _ _ _
    refine wpAny_bind ?_
    refine wpAny_updateSeq hS' rfl (wpAny_bind (wpAny_letGo (wpAny_pure ?_)))
    refine hR vb _ tk (by rw [← hin]; exact hPb) fun b o hbw hbS e => (Heap.get?_update_other _ _ (Ne.symm hbS)).trans (hk' b o hbw e)
  | succ k ih =>
    intro j s vb c hk hj hst hPb hkp hS hR
    have hlt : j + 1 < n := by omega
    refine codeAny_builtin F.entry_min_loop ?_
    rw [Around.under_plainId F.plain_min_loop _]
    show wpAny _ A.in1 (seqItems? (.ref S) >>= _) _ _ s
    refine wpAny_bind (wpAny_seqItems hS rfl ?_)
    show wpAny _ A.in1 (tryCatch (pyNext (.ref I)) _ >>= _) _ _ s
    refine wpAny_bind (wpAny_tryCatch (W.item (j + 1) s _ _ hlt hst fun v h' tk hP hst' hk' => ?_))
    have hS' := hk' S _ hSw hS
    have hkp' : ∀ b o, b ∉ wr → h0.get? b = some o → h'.get? b = some o := fun b o hb e => hk' b o hb (hkp b o hb e)
    show wpAny _ A.in1 (tryCatch (holding [v, v] (richCompare .Lt v vb >>= _)) _ >>= _) _ _ _
    refine wpAny_bind (wpAny_tryCatch (wpAny_holding (wpAny_bind (hcmp (j + 1) (argBest bt j) v vb _ _ _ hkp' hP hPb ?_))))
    refine wpAny_bind (wpAny_holding (wpAny_truthy_bool ?_))
    refine wpAny_bind (wpAny_letGo (wpAny_pure ?_))
    cases hb : bt (j + 1) (argBest bt j) with
    | true =>
      simp only [if_true]
      refine wpAny_bind ?_
      refine wpAny_updateSeq hS' rfl (wpAny_bind (wpAny_letGo ?_))
      rw [hname]
      refine wpAny_pure ⟨plainId_quiet F.plain_min_loop _, ih (j + 1) _ v _ (by omega) hlt (W.frame _ _ _ hst' fun b hbf o e => ?_) (by simp only [argBest, hb, if_true]; exact hP) (fun b o hbw e => ?_) (Heap.get?_update_self _ hS' rfl)
        fun v' h'' tk'' hP' hk'' => ?_⟩
      · exact (Heap.get?_update_other _ _ (fun h : S = b => hSf (by rw [h]; exact hbf))).trans e
      · exact (Heap.get?_update_other _ _ (nS b o e)).trans (hkp' b o hbw e)
      · exact hR v' h'' tk'' hP' fun b o hbw hbS e => hk'' b o hbw hbS ((Heap.get?_update_other _ _ (Ne.symm hbS)).trans (hk' b o hbw e))
    | false =>
      simp only [Bool.false_eq_true, if_false]
      refine wpAny_bind (wpAny_letGo ?_)
      rw [hname]
      refine wpAny_pure ⟨plainId_quiet F.plain_min_loop _, ih (j + 1) _ vb c (by omega) hlt hst' (by simp only [argBest, hb, Bool.false_eq_true, if_false]; exact hPb) hkp' hS' fun v' h'' tk'' hP' hk'' => ?_⟩
      exact hR v' h'' tk'' hP' fun b o hbw hbS e => hk'' b o hbw hbS (hk' b o hbw e)
theorem min_firstH (W : Walks prog w A.in1 I fp wr n P St) (bt : Nat → Nat → Bool) {h0 : Heap} (hcmp : CmpAt prog w A.in1 h0 wr .Lt P bt) (S : Addr) (hSf : S ∉ fp) (hS0 : h0.get? S = none) (hn : 0 < n) {s : Shared} {c : Nat} (hst : St 0 s.heap) (hkp : ∀ b o, b ∉ wr → h0.get? b = some o → s.heap.get? b = some o)
    (hS : s.heap.get? S = some { cls := .type "list", dict := none, data := .seq #[] c, slots := #[] })
    (hR : ∀ v h' tk, P (argBest bt (n - 1)) v → (∀ b o, b ∉ wr → b ≠ S → s.heap.get? b = some o → h'.get? b = some o) → R (.ok (.ret v)) { s with heap := h', toks := tk }) :
    codeAny (model prog w) A (.builtin "min.loop" ⟨[.ref I, .none, .ref S], []⟩) R s := by
  have hSw : S ∉ wr := fun h => hSf (W.sub _ h)
  have nS : ∀ b o, h0.get? b = some o → S ≠ b := fun b o e z => by rw [z, e] at hS0; cases hS0
  have hname : (toString "min" ++ toString ".loop" : String) = "min.loop" := by decide
  refine codeAny_builtin F.entry_min_loop ?_
  rw [Around.under_plainId F.plain_min_loop _]
  show wpAny _ A.in1 (seqItems? (.ref S) >>= _) _ _ s
  refine wpAny_bind (wpAny_seqItems hS rfl ?_)
  show wpAny _ A.in1 (tryCatch (pyNext (.ref I)) _ >>= _) _ _ s
  refine wpAny_bind (wpAny_tryCatch (W.item 0 s _ _ hn hst fun v h' tk hP hst' hk' => ?_))
  have hS' := hk' S _ hSw hS
  show wpAny _ A.in1 (updateSeq S (fun _ => #[v, v]) >>= _) _ _ _
  refine wpAny_bind ?_
  refine wpAny_updateSeq hS' rfl ?_
  rw [hname]
  refine wpAny_pure ⟨plainId_quiet F.plain_min_loop _, min_loopH h0 W bt hcmp S hSf hS0 _ 0 _ v _ rfl hn (W.frame _ _ _ hst' fun b hbf o e => ?_) hP (fun b o hbw e => ?_) (Heap.get?_update_self _ hS' rfl) fun v' h'' tk'' hP' hk'' => ?_⟩
  · exact (Heap.get?_update_other _ _ (fun h : S = b => hSf (by rw [h]; exact hbf))).trans e
  · exact (Heap.get?_update_other _ _ (nS b o e)).trans (hk' b o hbw (hkp b o hbw e))
  · exact hR v' h'' tk'' hP' fun b o hbw hbS e => hk'' b o hbw hbS ((Heap.get?_update_other _ _ (Ne.symm hbS)).trans (hk' b o hbw e))
end
section
variable {prog : Program} {w : World} {A : Around} {E : Value → Shared → Prop} {s : Shared}
theorem call_min_walkH {x : Value} {Q : Value → Shared → Prop}
    (h : wpAny (model prog w) A.in1 (pyIter x) (fun it s₂ => ∃ I fp wr n P St bt, it = .ref I ∧ Walks prog w A.in1 I fp wr n P St ∧ St 0 s₂.heap ∧ (∀ b ∈ fp, b < s₂.heap.objs.size) ∧ 0 < n ∧ CmpAt prog w A.in1 s₂.heap wr .Lt P bt ∧
      ∀ v h' tk, P (argBest bt (n - 1)) v → (∀ b o, b ∉ wr → s₂.heap.get? b = some o → h'.get? b = some o) → Q v { s₂ with heap := h', toks := tk }) E s) :
    wpAny (model prog w) A (call (.builtin "min") [x]) Q E s := by
  have hname : (toString "min" ++ toString ".loop" : String) = "min.loop" := by decide
  refine call_function_tree F.kind_min F.plain_min F.entry_min (F.args_min1 _) ?_
  show wpAny _ A.in1 (Builtin.Builtins.bindParams "min" ["key", "default"] 0 ⟨[], []⟩ >>= _) _ _ s
  refine wpAny_bind (wpAny_of_eq (show Builtin.Builtins.bindParams "min" ["key", "default"] 0 ⟨[], []⟩ = pure [none, none] from rfl) ?_)
  refine wpAny_bind (wpAny_pure ?_)
  refine wpAny_bind (wpAny_mono h (fun it s₂ h₂ => ?_) fun _ _ e => e)
  obtain ⟨I, fp, wr, n, P, St, bt, rfl, W, hst, hfp, hn, hcmp, hQ⟩ := h₂
  refine wpAny_bind (wpAny_newObj_type ?_)
  have hSf : s₂.heap.objs.size ∉ fp := fun hm => Nat.lt_irrefl _ (hfp _ hm)
  rw [hname]
  refine wpAny_pure ⟨plainId_quiet F.plain_min_loop _, min_firstH W bt hcmp s₂.heap.objs.size hSf (Heap.get?_none_of_le (Nat.le_refl _)) hn (W.frame _ _ _ hst fun b _ o e => Heap.get?_push_of_some _ e) (fun b o _ e => Heap.get?_push_of_some _ e) (Heap.get?_push_size _ rfl) fun v h' tk hP hk => ?_⟩
  exact hQ v h' tk hP fun b o hbw e => hk b o hbw (Nat.ne_of_lt (Heap.lt_size e)) (Heap.get?_push_of_some _ e)
theorem iter_tup {t : Addr} {items : Array Value} {Q : Value → Shared → Prop} (ht : s.heap.IsTuple t items)
    (h : ∀ s₂ : Shared, s₂ = { s with heap := s.heap.push { cls := .type "tuple_iterator", data := .fields #[.ref t, .int 0 0] } } →
      (s₂.heap.IsTupleIter s.heap.objs.size t 0 ∧ s₂.heap.IsTuple t items) → (∀ b ∈ [s.heap.objs.size, t], b < s₂.heap.objs.size) → t ≠ s.heap.objs.size → Q (.ref s.heap.objs.size) s₂) :
    wpAny (model prog w) A (pyIter (.ref t)) Q E s := by
  have hlt : t < s.heap.objs.size := by obtain ⟨_, e, _⟩ := ht; exact Heap.lt_size e
  refine wpAny_pyIter_tuple ht (h _ rfl ⟨⟨_, Heap.get?_push_size _ rfl, rfl, rfl⟩, ht.push _⟩ (fun b hb => ?_) (Nat.ne_of_lt hlt))
  show b < (s.heap.push _).objs.size
  rw [Heap.size_push]
  rcases List.mem_cons.mp hb with rfl | hb
  · exact Nat.lt_succ_self _
  · rcases List.mem_cons.mp hb with rfl | hb
    · exact Nat.lt_succ_of_lt hlt
    · cases hb
theorem old_keptT {h' : Heap} {t : Addr} (hk : ∀ b o, b ∉ [s.heap.objs.size] → (s.heap.push { cls := .type "tuple_iterator", data := .fields #[.ref t, .int 0 0] }).get? b = some o → h'.get? b = some o) :
    ∀ b o, s.heap.get? b = some o → h'.get? b = some o := fun b o e => by
  refine hk b o (fun hm => ?_) (Heap.get?_push_of_some _ e)
  rcases List.mem_cons.mp hm with e1 | hm
  · exact absurd (e1 ▸ Heap.lt_size e) (Nat.lt_irrefl _)
  · cases hm
theorem old_keptL {h' : Heap} {t : Addr} (hk : ∀ b o, b ∉ [s.heap.objs.size] → (s.heap.push { cls := .type "list_iterator", data := .fields #[.ref t, .int 0 0] }).get? b = some o → h'.get? b = some o) :
    ∀ b o, s.heap.get? b = some o → h'.get? b = some o := fun b o e => by
  refine hk b o (fun hm => ?_) (Heap.get?_push_of_some _ e)
  rcases List.mem_cons.mp hm with e1 | hm
  · exact absurd (e1 ▸ Heap.lt_size e) (Nat.lt_irrefl _)
  · cases hm
end
end PySem
namespace J
open PySem PySem.Spec PyProof.Rows L2
theorem ints_num {its : List Value} {ns : List Int} (h : IntsAre its ns) : ∀ (i : Nat) (v : Value), its.toArray[i]? = some v → ∃ t, v = Value.int (ns.getD i 0) t := by
  induction h with
  | nil => intro i v e; simp at e
  | cons n t h ih =>
    intro i v e
    cases i with
    | zero =>
      have e' : Value.int n t = v := by simpa using e
      exact ⟨t, e'.symm⟩
    | succ i => exact ih i v (by simpa using e)
theorem preSum_take (ns : List Int) : ∀ k, k ≤ ns.length → preSum (fun i => ns.getD i 0) k = (ns.take k).sum := by
  intro k
  induction k with
  | zero => intro _; rfl
  | succ k ih =>
    intro h
    have e : ns[k]? = some (ns.getD k 0) := by
      rw [List.getD_eq_getElem?_getD, List.getElem?_eq_getElem (by omega)]
      rfl
    rw [sum_take e, ← ih (by omega)]
    rfl
section
variable {X : Cx}
/-- sum of a list or tuple of ints -/
def rSumA (K : PySem.W.Frag) : List V → Hp → VK → Prop := fun vs H Q => ∃ (a : Addr) (ns : List Int), vs = [V.ref a] ∧ (SqL K H a (ns.map V.int) ∨ SqT K H a (ns.map V.int)) ∧ Q (.int ns.sum) H
theorem cr_sumA (hc : X.calm = true) : CallR X (.builtin "sum") (rSumA X.K) := by
  intro pins s σ H vs us Q I r h
  obtain ⟨a, ns, rfl, hs, q⟩ := h
  rcases hs with hs | hs
  · exact cr_sum hc pins s σ H _ us Q I r ⟨a, ns, rfl, hs, q⟩
  · obtain ⟨its, rv, ht, _⟩ := I.tuple hs
    rw [Vals.ref1 r]
    have hi := rv.ints
    refine call_sum_walkG (iter_tup ht fun s₂ e st hfp hlI => ?_)
    subst e
    refine ⟨_, _, _, _, _, _, fun i => ns.getD i 0, rfl, Walks.tuple (A := X.A.in1) (I.ok.hd hc) _ a hlI its.toArray, st, hfp, ints_num hi, fun h' tk t' hk => ?_⟩
    have kk := old_keptT (t := a) hk
    have e : preSum (fun i => ns.getD i 0) its.toArray.size = ns.sum := by
      have hl : its.length = ns.length := hi.length
      rw [List.size_toArray, hl, preSum_take ns _ (Nat.le_refl _), List.take_length]
    rw [e]
    exact ⟨.int _, H, I.kept kk, ⟨_, rfl⟩, q⟩
theorem argBest_lt' (n : Nat) : ∀ (bt : Nat → Nat → Bool), argBest bt n ≤ n := by
  intro bt
  induction n with
  | zero => exact Nat.le_refl _
  | succ n ih =>
    unfold argBest
    split
    · exact Nat.le_refl _
    · omega
/-- max of a list or tuple of ints, min of one -/
def rMaxA (K : PySem.W.Frag) : List V → Hp → VK → Prop := fun vs H Q => ∃ (a : Addr) (ns : List Int), vs = [V.ref a] ∧ (SqL K H a (ns.map V.int) ∨ SqT K H a (ns.map V.int)) ∧ 0 < ns.length ∧ ∀ m, m ∈ ns → (∀ y, y ∈ ns → y ≤ m) → Q (.int m) H
theorem argBest_max (f : Nat → Int) : ∀ n, (∀ j, j ≤ n → f j ≤ f (argBest (fun i j => decide (f i > f j)) n)) := by
  intro n
  induction n with
  | zero => intro j hj; rw [Nat.le_zero.mp hj]; exact Int.le_refl _
  | succ n ih =>
    intro j hj
    unfold argBest
    by_cases h : f (n + 1) > f (argBest (fun i j => decide (f i > f j)) n)
    · rw [if_pos (decide_eq_true h)]
      by_cases e : j = n + 1
      · rw [e]; exact Int.le_refl _
      · have := ih j (by omega)
        omega
    · rw [if_neg (by rw [decide_eq_false h]; exact Bool.false_ne_true)]
      by_cases e : j = n + 1
      · rw [e]; omega
      · exact ih j (by omega)
theorem cr_maxA (hc : X.calm = true) : CallR X (.builtin "max") (rMaxA X.K) := by
  intro pins s σ H vs us Q I r h
  obtain ⟨a, ns, rfl, hs, hne, q⟩ := h
  rcases hs with hs | hs
  · exact cr_max hc pins s σ H _ us Q I r ⟨a, ns, rfl, hs, hne, q⟩
  · obtain ⟨its, rv, ht, _⟩ := I.tuple hs
    rw [Vals.ref1 r]
    have hi := rv.ints
    have hl : its.length = ns.length := hi.length
    refine call_max_walk (iter_tup ht fun s₂ e st hfp hlI => ?_)
    subst e
    refine ⟨_, _, _, _, _, _, _, rfl, Walks.tuple (A := X.A.in1) (I.ok.hd hc) _ a hlI its.toArray, st, hfp, by rw [List.size_toArray, hl]; exact hne, CmpOf.ints_gt (fun i => ns.getD i 0) (ints_num hi), fun v h' tk hP hk => ?_⟩
    have kk := old_keptT (t := a) hk
    obtain ⟨t, rfl⟩ := ints_num hi _ _ hP
    have b1 := argBest_lt' (its.toArray.size - 1) (fun i j => decide (ns.getD i 0 > ns.getD j 0))
    rw [List.size_toArray, hl] at b1
    rw [List.size_toArray, hl]
    refine ⟨.int _, H, I.kept kk, ⟨_, rfl⟩, q _ ?_ fun y hy => ?_⟩
    · rw [List.getD_eq_getElem?_getD, List.getElem?_eq_getElem (by omega)]
      exact List.getElem_mem _
    · obtain ⟨j, hj, e⟩ := List.mem_iff_getElem.mp hy
      have := argBest_max (fun i => ns.getD i 0) (ns.length - 1) j (by omega)
      have ej : ns.getD j 0 = y := by rw [List.getD_eq_getElem?_getD, List.getElem?_eq_getElem hj]; exact e
      rw [← ej]
      exact this
/-- min of a list of data -/
def bestAt (ds : List PyData) : Nat → Nat := argBest fun i j => ltD (ds.getD i .none) (ds.getD j .none)
def rMinD (K : PySem.W.Frag) : List V → Hp → VK → Prop := fun vs H Q => ∃ (a : Addr) (xs : List V) (ds : List PyData) (v : V), vs = [V.ref a] ∧ SqL K H a xs ∧ DpAll K H xs ds ∧ 0 < ds.length ∧ (∀ d ∈ ds, SeqAt.shaped d = true) ∧ (∀ d ∈ ds, ∀ e ∈ ds, cmpD d e = true) ∧
  xs[bestAt ds (ds.length - 1)]? = some v ∧ Q v H
theorem cr_minD (hc : X.calm = true) (hu : X.A.units + 128 < cLine) : CallR X (.builtin "min") (rMinD X.K) := by
  intro pins s σ H vs us Q I r h
  obtain ⟨a, xs, ds, v, rfl, hs, hd, hne, hsh, hcmp, hv, q⟩ := h
  obtain ⟨its, rv, hl, _⟩ := I.list hs
  rw [Vals.ref1 r]
  obtain ⟨as, hr⟩ := Dp.readsAll I ds _ its hd rv
  have hn : its.length = ds.length := SeqAt.ReadsAll.length ds its as hr
  have hlt : a < s.heap.objs.size := hl.lt
  refine call_min_walkH ?_
  refine wpAny_pyIter_list hl.isList ?_
  have st : (s.heap.push { cls := .type "list_iterator", data := .fields #[.ref a, .int 0 0] }).IsListIter s.heap.objs.size a 0 ∧ (s.heap.push { cls := .type "list_iterator", data := .fields #[.ref a, .int 0 0] }).IsList a its.toArray := ⟨⟨_, Heap.get?_push_size _ rfl, rfl, rfl⟩, hl.isList.push _⟩
  have ui : X.A.in1.units = X.A.units + 1 := rfl
  refine ⟨s.heap.objs.size, [s.heap.objs.size, a], [s.heap.objs.size], its.toArray.size, _, _, fun i j => ltD (ds.getD i .none) (ds.getD j .none), rfl, Walks.list (A := X.A.in1) (I.ok.hd hc) _ a (Nat.ne_of_lt hlt) its.toArray, st, fun b hb => ?_, by rw [List.size_toArray, hn]; exact hne, ?_, fun u h' tk hP hk => ?_⟩
  · show b < (s.heap.push _).objs.size
    rw [Heap.size_push]
    rcases List.mem_cons.mp hb with rfl | hb
    · exact Nat.lt_succ_self _
    · rcases List.mem_cons.mp hb with rfl | hb
      · exact Nat.lt_succ_of_lt hlt
      · cases hb
  · intro i j vi vj s' Q' E' hk hi hj hq
    have kk := old_keptL (t := a) (h' := s'.heap) hk
    have inv : Inv X pins σ H { s with heap := s'.heap } := I.kept (t' := s.toks) kk
    obtain ⟨as', hr'⟩ := Dp.readsAll inv ds _ its hd rv
    have li : i < its.length := by
      have := (Array.getElem?_eq_some_iff.mp hi).1
      rwa [List.size_toArray] at this
    have lj : j < its.length := by
      have := (Array.getElem?_eq_some_iff.mp hj).1
      rwa [List.size_toArray] at this
    have ei : its[i] = vi := by have := (Array.getElem?_eq_some_iff.mp hi).2; simpa using this
    have ej : its[j] = vj := by have := (Array.getElem?_eq_some_iff.mp hj).2; simpa using this
    obtain ⟨b1, r1⟩ := reads_at _ _ _ hr' i li
    obtain ⟨b2, r2⟩ := reads_at _ _ _ hr' j lj
    have mi : ds.getD i .none ∈ ds := by
      rw [List.getD_eq_getElem?_getD, List.getElem?_eq_getElem (by omega)]
      exact List.getElem_mem _
    have mj : ds.getD j .none ∈ ds := by
      rw [List.getD_eq_getElem?_getD, List.getElem?_eq_getElem (by omega)]
      exact List.getElem_mem _
    rw [ei] at r1
    rw [ej] at r2
    have dp := SeqAt.depth_of_shaped (hsh _ mi)
    exact lt_reads _ _ _ (Nat.le_refl _) (hcmp _ mi _ mj) X.A.in1 s' vi vj b1 b2 r1 r2 (SeqAt.canLay_of_shaped (hsh _ mi)) (SeqAt.canLay_of_shaped (hsh _ mj)) (by rw [ui]; omega) _ _ _ _ hq
  · have kk := old_keptL (t := a) hk
    obtain ⟨u', hu', ru⟩ := rv.get hv
    have e : u' = u := by
      have hP' : its.toArray[bestAt ds (its.toArray.size - 1)]? = some u := hP
      rw [List.size_toArray, hn] at hP'
      have h2 : its.toArray[bestAt ds (ds.length - 1)]? = some u' := by simpa using hu'
      rw [h2] at hP'
      exact Option.some.inj hP'
    rw [← e]
    exact ⟨v, H, I.kept kk, ru, q⟩
end
/-! ### sorted of a tuple of ints -/
section
variable {prog : Program} {w : World} {A : Around} {E : Value → Shared → Prop} {s : Shared}
theorem collect_tup {l : Addr} {vs : List Value} {Q : List Value → Shared → Prop} (hl : s.heap.IsTuple l vs.toArray)
    (h : Q vs { s with heap := (s.heap.push (seqObj "list" #[] 0)).update s.heap.objs.size (Obj.mapSeq (· ++ vs.toArray)) }) (hsz : vs.length ≤ sizeLine) :
    wpAny (model prog w) A (collect (.ref l)) Q E s := by
  obtain ⟨o, ho, hc, n, hd⟩ := id hl
  unfold collect
  refine wpAny_bind (wpAny_runValue (codeAny_builtin entry_proto_collect' ?_))
  show wpAny _ _ (do again (.builtin "list.__iadd__" ⟨[← newList [], .ref l], []⟩)) _ _ s
  refine wpAny_bind (wpAny_newList (wpAny_pure ⟨Code.quiet_builtin _ (by decide +kernel), codeAny_builtin entry_list_iadd' ?_⟩))
  show wpAny _ _ (Builtin.List.listExtendWith (.ref s.heap.objs.size) (.ref l) (.ref s.heap.objs.size)) _ _ { s with heap := s.heap.push (seqObj "list" #[] 0) }
  unfold Builtin.List.listExtendWith
  have ho' : (s.heap.push (seqObj "list" #[] 0)).get? l = some o := Heap.get?_push_of_some _ ho
  refine wpAny_bind (wpAny_typeOf (T := "tuple") ⟨o, ho', hc⟩ ?_)
  have ht : (Value.type "tuple" == Value.type "tuple") = true := by rfl
  rw [if_pos (by rw [ht]; simp)]
  refine wpAny_bind (listItems_at ho' hd ?_)
  refine wpAny_bind (listItems_at (xs := #[]) (n := 0) (Heap.get?_push_size _ rfl) rfl ?_)
  rw [if_neg (by simp)]
  refine wpAny_bind (listUpdate_at (xs := #[]) (n := 0) (Heap.get?_push_size _ rfl) rfl ?_ (Nat.zero_le _) (by show (#[] ++ vs.toArray).size ≤ sizeLine + 1; simp only [Array.size_append, List.size_toArray, List.length_nil]; omega))
  refine wpAny_pure ?_
  show wpAny (model prog w) A (do
      let o ← load s.heap.objs.size
      match o.data with
      | .seq xs _ => pure xs.toList
      | _ => unsupported "internal:collect") Q E { s with heap := (s.heap.push (seqObj "list" #[] 0)).update s.heap.objs.size (Obj.mapSeq (· ++ vs.toArray)) }
  refine wpAny_bind (wpAny_load (get?_update_seq (Heap.get?_push_size _ rfl) _) ?_)
  show wpAny _ _ (pure ((#[] : Array Value) ++ vs.toArray).toList) Q E _
  rw [show ((#[] : Array Value) ++ vs.toArray).toList = vs by simp]
  exact wpAny_pure h
open SrtO Srt in
/-- sorted(t) of a tuple -/
theorem sorted_ordT {l : Addr} {vs : List Value} {ltv : Value → Value → Bool} {Q : Value → Shared → Prop} (O : Swo ltv) (hl : s.heap.IsTuple l vs.toArray) (hz : vs.length ≤ sizeLine)
    (hS : 2 ≤ vs.length → ∀ (h₁ : Heap) (a : Addr), h₁.get? a = some (seqObj "list" vs.toArray 0) → (∀ b o, s.heap.get? b = some o → b ≠ a ∧ h₁.get? b = some o) → SortableO prog w A.in1.in1 { s with heap := h₁ } a vs ltv)
    (h : ∀ out : List Value, Srtd ltv out → Stb ltv out vs → Q (.ref (s.heap.objs.size + 1)) { s with heap := sortedAll s.heap vs out.toArray }) :
    wpAny (model prog w) A (call (.builtin "sorted") [.ref l]) Q E s := by
  refine Calls.call_function_entry kind_sorted plain_sorted entry_sorted (args_sorted1 _) ?_
  unfold Builtin.«sorted»
  refine wpAny_bind (m := checkCount "sorted" 1 1 _) (wpAny_pure ?_)
  refine wpAny_bind (collect_tup hl ?_ hz)
  refine wpAny_bind (wpAny_newList ?_ hz)
  have hsz : ((s.heap.push (seqObj "list" #[] 0)).update s.heap.objs.size (Obj.mapSeq (· ++ vs.toArray))).objs.size = s.heap.objs.size + 1 := by
    rw [Heap.size_update, size_push']
  have hoL : (((s.heap.push (seqObj "list" #[] 0)).update s.heap.objs.size (Obj.mapSeq (· ++ vs.toArray))).push (seqObj "list" vs.toArray 0)).get? (s.heap.objs.size + 1) = some (seqObj "list" vs.toArray 0) := by
    rw [← hsz]; exact Heap.get?_push_size _ rfl
  have keep : ∀ b o, s.heap.get? b = some o → b ≠ s.heap.objs.size + 1 ∧ (((s.heap.push (seqObj "list" #[] 0)).update s.heap.objs.size (Obj.mapSeq (· ++ vs.toArray))).push (seqObj "list" vs.toArray 0)).get? b = some o := fun b o q => by
    have hlt : b < s.heap.objs.size := Heap.lt_size q
    refine ⟨Nat.ne_of_lt (Nat.lt_succ_of_lt hlt), Heap.get?_push_of_some _ ?_⟩
    rw [Heap.get?_update_ne _ _ _ _ (Nat.ne_of_lt hlt)]
    exact Heap.get?_push_of_some _ q
  show wpAny _ _ _ _ _ { s with heap := ((s.heap.push (seqObj "list" #[] 0)).update s.heap.objs.size (Obj.mapSeq (· ++ vs.toArray))).push (seqObj "list" vs.toArray 0) }
  rw [hsz]
  refine wpAny_bind (wpAny_holding (wpAny_call_entry slot_list_sort ⟨_, hoL, rfl⟩ entry_list_sort (list_sort_ord O hoL hz (fun h2 => hS h2 _ _ hoL keep) fun out hs hb => ⟨_, rfl, ?_⟩) (args_list_sort _)))
  exact wpAny_pure ⟨_, rfl, h out hs hb⟩
end
/-- sorted of a list or tuple of ints -/
def rSortedA (K : PySem.W.Frag) : List V → Hp → VK → Prop := fun vs H Q => ∃ (a : Addr) (ns : List Int), vs = [V.ref a] ∧ (SqL K H a (ns.map V.int) ∨ SqT K H a (ns.map V.int)) ∧
  ∀ (ns' : List Int) (p : Addr), ns'.Perm ns → ns'.Pairwise (· ≤ ·) → H p = none → Q (.ref p) (upd H p (.lst (ns'.map V.int)))
theorem cr_sortedA {X : Cx} : CallR X (.builtin "sorted") (rSortedA X.K) := by
  intro pins s σ H vs us Q I r h
  obtain ⟨a, ns, rfl, hs, q⟩ := h
  rcases hs with hs | hs
  · exact cr_sortedI pins s σ H _ us Q I r ⟨a, ns, rfl, hs, q⟩
  · obtain ⟨its, rv, hl, hz⟩ := I.tuple hs
    rw [Vals.ref1 r]
    have hi := rv.ints
    have hlen : its.length ≤ sizeLine := by rw [← rv.length]; exact hz
    refine sorted_ordT SrtO.swo_int hl hlen (fun h2 h₁ a' ha kk => SrtO.ints_sortable hi h2) fun out hs hb => ?_
    obtain ⟨h1, h2, h3⟩ := SrtO.ints_out hi hs hb
    obtain ⟨ep, he'⟩ := PyProof.Rows.sortedAll_at s.heap its out.toArray
    have hlen' : ((out.map SrtO.iv).map V.int).length ≤ sizeLine := by
      rw [List.length_map, h2.length_eq, ← hi.length]; exact hlen
    exact ⟨.ref _, upd H (s.heap.objs.size + 1) (.lst ((out.map SrtO.iv).map V.int)), I.laid (t' := s.toks) (fun _ _ => PyProof.Rows.sortedAll_old) (Nat.le_succ _) ⟨hlen', out, ep, vals_of_ints h1, he'⟩, rfl, q _ _ h2 h3 (I.hok.fresh (Nat.le_succ _))⟩
end J
/-! J6: reversed slices, built-ins over slots. -/
namespace J
open PySem PySem.Spec PyProof.Rows L2
/-! ### t[::-1] of a tuple -/
theorem adjust_rev (n : Nat) : Builtin.Slice.sliceAdjust none none (-1) (n : Int) = ((n : Int) - 1, -1) := by
  unfold Builtin.Slice.sliceAdjust
  simp
theorem places_rev (n : Nat) : Builtin.Slice.slicePlaces ((n : Int) - 1) (-1) (-1) = n := by
  unfold Builtin.Slice.slicePlaces
  rw [if_neg (by decide)]
  by_cases h : n = 0
  · subst h
    rw [if_neg (by decide)]
    rfl
  · rw [if_pos (by omega)]
    have e : ((n : Int) - 1 - (-1) - 1) / (-(-1)) + 1 = n := by
      rw [show (-(-1) : Int) = 1 by decide, Int.ediv_one]
      omega
    rw [e]
    exact Int.toNat_natCast n
theorem pick_rev (xs : Array Value) : ((List.range xs.size).filterMap fun (k : Nat) => xs[(((xs.size : Nat) : Int) - 1 + (k : Int) * (-1)).toNat]?).toArray = xs.toList.reverse.toArray := by
  have e : ∀ l : List Nat, (∀ k ∈ l, k < xs.size) → (l.filterMap fun (k : Nat) => xs[(((xs.size : Nat) : Int) - 1 + (k : Int) * (-1)).toNat]?) = (l.map fun k => xs.size - 1 - k).filterMap (xs[·]?) := by
    intro l
    induction l with
    | nil => intro _; rfl
    | cons k l ih =>
      intro h
      have hk := h k List.mem_cons_self
      rw [List.map_cons, List.filterMap_cons, List.filterMap_cons, ih fun m hm => h m (List.mem_cons_of_mem _ hm)]
      have z : (((xs.size : Nat) : Int) - 1 + (k : Int) * (-1)).toNat = xs.size - 1 - k := by omega
      rw [z]
  rw [e _ fun k hk => List.mem_range.mp hk, PySem.W.krv_range, List.filterMap_reverse, PySem.W.krv_all]
section
variable {prog : Program} {w : World} {A : Around} {E : Value → Shared → Prop} {s : Shared}
open HT in
theorem getItem_tuple_rev {t sl : Addr} {items : Array Value} {vl vu vs : Value} {Q : Value → Shared → Prop} (ht : IsTup s.heap t items) (hs : s.heap.IsSliceOf sl vl vu vs) (pl : IsPart vl none) (pu : IsPart vu none) (ps : IsPart vs (some (-1)))
    (h : Q (.ref s.heap.objs.size) { s with heap := s.heap.push { cls := .type "tuple", data := .seq items.toList.reverse.toArray } })
    (hsz : items.size ≤ sizeLine) : wpAny (model prog w) A (getItem (.ref t) (.ref sl)) Q E s := by
  have htake : sizeOk (.seq items.toList.reverse.toArray) := by
    show (items.toList.reverse.toArray).size ≤ sizeLine
    rw [List.size_toArray, List.length_reverse, Array.length_toList]
    exact hsz
  obtain ⟨os, hos, hcs, hds⟩ := id hs
  have hTs : s.TypeIs (.ref sl) "slice" := ⟨os, hos, hcs⟩
  unfold getItem
  try with_reducible refine wpAny_holding ?_
  first | refine wpAny_bind (wpAny_pure ?_) | skip
  refine wpAny_bind (wpAny_sequenceKey ht.typeIs (by decide) ?_)
  refine wpAny_bind (wpAny_callSpecial?_slot (name := Str.ofString "__getitem__") ht.typeIs PyProof.Rows.slot_tuple_getitem
    (wpAny_call_entry PyProof.Rows.slot_tuple_getitem ht.typeIs entry_tuple_getitem ?_ (args_tuple_getitem _ _)))
  show wpAny _ _ (Builtin.Tuple.tupleItemsOf (.ref t) >>= _) _ _ s
  refine wpAny_bind (tupleItemsOf_ ht ?_)
  refine wpAny_bind (wpAny_typeOf hTs ?_)
  rw [if_pos (by decide)]
  have slA : ∀ {Q : Int × Int × Nat → Shared → Prop} {E' : Value → Shared → Prop} {A' : Around}, Q ((items.size : Int) - 1, -1, items.size) s → wpAny (model prog w) A' (Builtin.Slice.sliceApplied (.ref sl) (pure (items.size : Int))) Q E' s := by
    intro Q E' A' h
    unfold Builtin.Slice.sliceApplied Builtin.Slice.sliceFields
    refine wpAny_bind (wpAny_bind (wpAny_field hos hds (x := vl) rfl (wpAny_bind (wpAny_field hos hds (x := vu) rfl (wpAny_bind (wpAny_field hos hds (x := vs) rfl (wpAny_pure ?_)))))))
    refine wpAny_bind (slicePart_ ps ?_)
    show wpAny _ _ (if ((-1 : Int) == 0) = true then _ else _) _ _ s
    rw [if_neg (by decide)]
    refine wpAny_bind (slicePart_ pl (wpAny_bind (slicePart_ pu (wpAny_bind (wpAny_pure ?_)))))
    show wpAny _ _ (match Builtin.Slice.sliceAdjust none none (-1) (items.size : Int) with | (lo, hi) => pure (lo, (-1 : Int), Builtin.Slice.slicePlaces lo hi (-1))) _ _ s
    rw [adjust_rev]
    show wpAny _ _ (pure ((items.size : Int) - 1, (-1 : Int), Builtin.Slice.slicePlaces ((items.size : Int) - 1) (-1) (-1))) _ _ s
    rw [places_rev]
    exact wpAny_pure h
  refine wpAny_bind (slA ?_)
  have hno : ¬ ((((items.size : Int) - 1) == 0 && (-1 : Int) == 1 && items.size == items.size) = true) := by
    intro q
    rw [Bool.and_eq_true, Bool.and_eq_true] at q
    exact absurd q.1.2 (by decide)
  show wpAny _ _ (if (((items.size : Int) - 1) == 0 && (-1 : Int) == 1 && items.size == items.size) = true then _ else _) _ _ s
  rw [if_neg hno, pick_rev]
  first
    | exact wpAny_bind (m := Builtin.Tuple.tupleExact _) (wpAny_newObj_type (wpAny_pure ⟨_, rfl, wpAny_pure h⟩) htake)
    | exact wpAny_bind (m := Builtin.Tuple.tupleExact _) (wpAny_newObj_type (wpAny_bind (wpAny_pure (wpAny_pure ⟨_, rfl, wpAny_pure h⟩))) htake)
    | exact wpAny_bind (wpAny_bind (m := Builtin.Tuple.tupleExact _) (wpAny_newObj_type (wpAny_pure (wpAny_pure ⟨_, rfl, wpAny_pure h⟩)) htake))
    | exact wpAny_bind (wpAny_bind (m := Builtin.Tuple.tupleExact _) (wpAny_newObj_type (wpAny_pure ⟨_, rfl, wpAny_pure h⟩) htake))
end
section
variable {X : Cx}
def tRevA (K : PySem.W.Frag) (te : TE) : TE := fun σ H Q => te σ H fun x H1 => ∃ a xs, x = .ref a ∧ ((SqL K H1 a xs ∧ ∀ p, H1 p = none → Q (.ref p) (upd H1 p (.lst xs.reverse))) ∨ (SqT K H1 a xs ∧ ∀ p, H1 p = none → Q (.ref p) (upd H1 p (.tup xs.reverse))))
theorem pe_revA {e : Expr} {te : TE} {k : Nat} {p1 p2 p3 pos : Pos} (he : PE X e te) : PE X (.Subscript e (.Slice none none (some (.UnaryOp .USub (.Constant (.int 1) k p1) p2)) p3) pos) (tRevA X.K te) := by
  refine ⟨fun pins s σ H Q I h => ?_⟩
  refine Subscript_ (thn (he.run pins s σ H _ I h) fun v s1 ⟨x, H1, I1, r1, q1⟩ => ?_)
  obtain ⟨a, xs, ex, q1⟩ := q1
  subst ex
  cases r1
  have hst : PO X (some (.UnaryOp .USub (.Constant (.int 1) k p1) p2)) (tPart (tUn (rU fun i => .int (-i)) (tC (.int 1)))) := po_some (pe_un un_neg pe_int)
  refine wpAny_Slice (thn (po_none.run pins s1 σ H1 (fun o H2 => o = none ∧ H2 = H1) I1 ⟨rfl, rfl⟩) fun vl s2 ⟨l, H2, I2, pl, el, e2⟩ => ?_)
  subst el e2
  refine thn (po_none.run pins s2 σ H2 (fun o H3 => o = none ∧ H3 = H2) I2 ⟨rfl, rfl⟩) fun vu s3 ⟨u, H3, I3, pu, eu, e3⟩ => ?_
  subst eu e3
  refine thn (hst.run pins s3 σ H3 (fun o H4 => o = some (-1) ∧ H4 = H3) I3 ⟨1, rfl, -1, rfl, rfl, rfl⟩) fun vs s4 ⟨o, H4, I4, ps, eo, e4⟩ => ?_
  subst eo e4
  have I5 : Inv X pins σ H4 { s4 with heap := s4.heap.push { cls := .type "slice", data := .fields #[vl, vu, vs] } } := I4.kept (t' := s4.toks) fun b ob q => Heap.get?_push_of_some _ q
  rcases q1 with ⟨hx, q⟩ | ⟨hx, q⟩
  · obtain ⟨its, r, ht, hz⟩ := I5.list hx
    have hlen := r.length
    show wpAny (model X.prog X.w) X.A (subscriptTail e (.Slice none none (some (.UnaryOp .USub (.Constant (.int 1) k p1) p2)) p3) (.ref a) (.ref s4.heap.objs.size)) (EP X pins σ Q) X.xe { s4 with heap := s4.heap.push { cls := .type "slice", data := .fields #[vl, vu, vs] } }
    refine tail_any (ops := [.ref a, .ref s4.heap.objs.size]) ht.isList.typeIs (PySem.slot_list_getitem.lookup) ?_ (by with_unfolding_all rfl)
    refine wpAny_getItem_list_slice ht.isList (Heap.IsSliceOf.new _ vl vu vs) pl pu ps (by decide) ?_ (by rw [List.size_toArray]; omega)
    rw [PySem.W.krv_pick]
    refine ⟨.ref _, _, I5.laid (t' := s4.toks) (o := .lst xs.reverse) (fun b ob q => Heap.get?_push_of_some _ q) (Nat.le_refl _) ?_, rfl, q _ (I5.hok.fresh (Nat.le_refl _))⟩
    exact ⟨by rw [List.length_reverse]; exact hz, _, 0, r.reverse, Heap.get?_push_size _ rfl⟩
  · obtain ⟨its, r, ht, hz⟩ := I5.tuple hx
    have hlen := r.length
    show wpAny (model X.prog X.w) X.A (subscriptTail e (.Slice none none (some (.UnaryOp .USub (.Constant (.int 1) k p1) p2)) p3) (.ref a) (.ref s4.heap.objs.size)) (EP X pins σ Q) X.xe { s4 with heap := s4.heap.push { cls := .type "slice", data := .fields #[vl, vu, vs] } }
    refine tail_any (ops := [.ref a, .ref s4.heap.objs.size]) ht.typeIs (PyProof.Rows.slot_tuple_getitem.lookup) ?_ (by with_unfolding_all rfl)
    refine getItem_tuple_rev ht (Heap.IsSliceOf.new _ vl vu vs) pl pu ps ?_ (by rw [List.size_toArray]; omega)
    refine ⟨.ref _, _, I5.laid (t' := s4.toks) (o := .tup xs.reverse) (fun b ob q => Heap.get?_push_of_some _ q) (Nat.le_refl _) ?_, rfl, q _ (I5.hok.fresh (Nat.le_refl _))⟩
    exact ⟨by rw [List.length_reverse]; exact hz, _, r.reverse, ⟨_, Heap.get?_push_size _ rfl, rfl, _, rfl⟩⟩
end
section
variable {S : Av} {H : Hp} {k : SD → Store → Prop} {Q : VK} {ρ : Ren} {μ : Store} {ta tb te : TE} {v : V} {x y : SD} {xs ys : List SD} {K : PySem.W.Frag}
theorem svs1 {vs : List V} (h : SVs S H vs [x]) : ∃ v, vs = [v] ∧ SV S H v x := by
  cases h with
  | cons a b => cases b; exact ⟨_, rfl, a⟩
theorem svs2 {vs : List V} (h : SVs S H vs [x, y]) : ∃ v u, vs = [v, u] ∧ SV S H v x ∧ SV S H u y := by
  cases h with
  | cons a b =>
    obtain ⟨u, e, s⟩ := svs1 b
    rw [e]
    exact ⟨_, u, rfl, a, s⟩
def numS (ns : List Int) : List SD := ns.map fun n => .im (.int n)
theorem ints_at {vs : List V} : ∀ {ns : List Int}, SVs S H vs (numS ns) → vs = ns.map V.int := by
  intro ns
  induction ns generalizing vs with
  | nil => intro h; cases h; rfl
  | cons n ns ih =>
    intro h
    cases h with
    | cons a b =>
      cases a
      rw [ih b]
      rfl
theorem of_ints : ∀ (ns : List Int), SVs S H (ns.map V.int) (numS ns)
  | [] => .nil
  | n :: ns => .cons (Da.int n) (of_ints ns)
theorem ints_ims (ns : List Int) : numS ns = (ns.map PyData.int).map .im := by unfold numS; rw [List.map_map]; rfl
theorem ev_revA (h : Ev te ρ μ fun x μ1 => (∃ xs, LV μ1 x xs ∧ NewL k μ1 xs.reverse) ∨ (∃ ds, x = .im (.tuple ds) ∧ k (.im (.tuple ds.reverse)) μ1)) : Ev (tRevA K te) ρ μ k := fun S σ H c e Q p =>
  h S σ H c e _ fun x μ1 v S1 H1 hh c1 s1 sv => by
    rcases hh with ⟨xs, hx, q⟩ | ⟨ds, rfl, q⟩
    · obtain ⟨a, vs, rfl, e1, p1⟩ := hx.at_ c1 sv
      exact ⟨a, vs, rfl, .inl ⟨.of e1, fun t ht => post_new (p.after s1) c1 (svs_rev p1) ht q⟩⟩
    · obtain ⟨a, vs, rfl, e1, n1, d1⟩ := da_tup sv
      refine ⟨a, vs, rfl, .inr ⟨.of e1, fun t ht => post_tup (p.after s1) c1 ?_ ht q⟩⟩
      have z := svs_rev (da_ims d1)
      rw [← List.map_reverse] at z
      exact ims_da z
/-! len -/
def rLenA (K : PySem.W.Frag) : List V → Hp → VK → Prop := fun xs H Q => (fun xs H Q => ∃ p ys, xs = [V.ref p] ∧ (SqL K H p ys ∨ SqT K H p ys) ∧ Q (.int ys.length) H) xs H Q ∨ (fun xs H Q => ∃ z : Str, xs = [.str z] ∧ z.length ≤ sizeLine ∧ Q (.int z.length) H) xs H Q
theorem cr_len {X : Cx} : CallR X (.builtin "len") (rLenA X.K) := call_len_seq.or call_len_str
theorem rc_len (hx : QV μ x xs) (q : k (.im (.int xs.length)) μ) : Rc (rLenA K) [x] μ k := fun S H vs c sv Q p => by
  obtain ⟨v, rfl, s⟩ := svs1 sv
  obtain ⟨a, vs, rfl, h, p1⟩ := hx.at_ (K := K) c s
  refine .inl ⟨a, vs, rfl, h, ?_⟩
  rw [svs_len p1]
  exact p.here q c (Da.int _)
theorem rc_lenT {ds : List PyData} (q : k (.im (.int ds.length)) μ) : Rc (rLenA K) [.im (.tuple ds)] μ k := rc_len (.t ds) (by rw [List.length_map]; exact q)
theorem rc_lenL {ds : List PyData} (q : k (.im (.int ds.length)) μ) : Rc (rLenA K) [.im (.list ds)] μ k := rc_len (.l ds) (by rw [List.length_map]; exact q)
theorem rc_lenC {a : Addr} (h : (a, Cell.lst xs) ∈ μ) (q : k (.im (.int xs.length)) μ) : Rc (rLenA K) [.mt a] μ k := rc_len (.c h) q
theorem rc_lenS {z : Str} (hz : z.length ≤ sizeLine) (q : k (.im (.int z.length)) μ) : Rc (rLenA K) [.im (.str z)] μ k := fun S H vs c sv Q p => by
  obtain ⟨v, rfl, s⟩ := svs1 sv
  cases s
  exact .inr ⟨z, rfl, hz, p.here q c (Da.int _)⟩
theorem rc_lenSc {ns : List Int} {P : Addr → Prop} (hP : ∀ a H, P a → SqL K H a (ns.map V.int)) (q : k (.im (.int ns.length)) μ) : Rc (rLenA K) [.sc ns P] μ k := fun S H vs c sv Q p => by
  obtain ⟨v, rfl, s⟩ := svs1 sv
  obtain ⟨a, rfl, h⟩ := sc_at hP s
  refine .inl ⟨a, _, rfl, .inl h, ?_⟩
  rw [List.length_map]
  exact p.here q c (Da.int _)
/-! sum, max, min, sorted -/
theorem rc_sum {ns : List Int} (hx : QV μ x (numS ns)) (q : k (.im (.int ns.sum)) μ) : Rc (rSumA K) [x] μ k := fun S H vs c sv Q p => by
  obtain ⟨v, rfl, s⟩ := svs1 sv
  obtain ⟨a, vs, rfl, h, p1⟩ := hx.at_ (K := K) c s
  rw [ints_at p1] at h
  exact ⟨a, ns, rfl, h, p.here q c (Da.int _)⟩
def rMax2' : List V → Hp → VK → Prop := fun xs H Q => ∃ i j, xs = [.int i, .int j] ∧ Q (.int (if j > i then j else i)) H
def rMin2' : List V → Hp → VK → Prop := fun xs H Q => ∃ i j, xs = [.int i, .int j] ∧ Q (.int (if j < i then j else i)) H
def rMaxJ (K : PySem.W.Frag) : List V → Hp → VK → Prop := fun xs H Q => rMax2' xs H Q ∨ rMaxA K xs H Q
def rMinJ (K : PySem.W.Frag) : List V → Hp → VK → Prop := fun xs H Q => rMin2' xs H Q ∨ rMinD K xs H Q
theorem cr_maxJ {X : Cx} (hc : X.calm = true) : CallR X (.builtin "max") (rMaxJ X.K) := (call_max2 hc).or (cr_maxA hc)
theorem cr_minJ {X : Cx} {n : Nat} (hc : X.calm = true) (hr : Room n X.A) : CallR X (.builtin "min") (rMinJ X.K) := (call_min2 hc).or (cr_minD hc (room128 hr))
theorem rc_max2 {i j : Int} (q : k (.im (.int (if j > i then j else i))) μ) : Rc (rMaxJ K) [.im (.int i), .im (.int j)] μ k := Rc.lf fun S H vs c sv Q p => by
  obtain ⟨v, u, rfl, s1, s2⟩ := svs2 sv
  cases s1
  cases s2
  exact ⟨i, j, rfl, p.here q c (Da.int _)⟩
theorem rc_min2 {i j : Int} (q : k (.im (.int (if j < i then j else i))) μ) : Rc (rMinJ K) [.im (.int i), .im (.int j)] μ k := Rc.lf fun S H vs c sv Q p => by
  obtain ⟨v, u, rfl, s1, s2⟩ := svs2 sv
  cases s1
  cases s2
  exact ⟨i, j, rfl, p.here q c (Da.int _)⟩
theorem rc_max {ns : List Int} (hx : QV μ x (numS ns)) (h0 : 0 < ns.length) (q : ∀ m, m ∈ ns → (∀ y ∈ ns, y ≤ m) → k (.im (.int m)) μ) : Rc (rMaxJ K) [x] μ k := Rc.rt fun S H vs c sv Q p => by
  obtain ⟨v, rfl, s⟩ := svs1 sv
  obtain ⟨a, vs, rfl, h, p1⟩ := hx.at_ (K := K) c s
  rw [ints_at p1] at h
  exact ⟨a, ns, rfl, h, h0, fun m h1 h2 => p.here (q m h1 h2) c (Da.int _)⟩
/-- the first least one of data -/
def leastD (ds : List PyData) : PyData := ds.getD (bestAt ds (ds.length - 1)) .none
theorem best_in {ds : List PyData} (h : 0 < ds.length) : bestAt ds (ds.length - 1) < ds.length := by
  have := argBest_lt' (ds.length - 1) fun i j => ltD (ds.getD i .none) (ds.getD j .none)
  unfold bestAt
  omega
theorem rc_minD {ds : List PyData} (h0 : 0 < ds.length) (h1 : ∀ d ∈ ds, SeqAt.shaped d = true) (h2 : ∀ d ∈ ds, ∀ e ∈ ds, cmpD d e = true) (q : k (.im (leastD ds)) μ) : Rc (rMinJ K) [.im (.list ds)] μ k := Rc.rt fun S H vs c sv Q p => by
  obtain ⟨v, rfl, s⟩ := svs1 sv
  obtain ⟨a, vs, rfl, e, n, d⟩ := da_lst s
  have e1 : (ds.map SD.im)[bestAt ds (ds.length - 1)]? = some (.im (leastD ds)) := by
    rw [List.getElem?_map, List.getElem?_eq_getElem (best_in h0)]
    unfold leastD
    rw [List.getD_eq_getElem?_getD, List.getElem?_eq_getElem (best_in h0)]
    rfl
  obtain ⟨u, hu, su⟩ := svs_get (da_ims d) e1
  exact ⟨a, vs, ds, u, rfl, .of e, das_dp ds _ d, h0, h1, h2, hu, p.here q c su⟩
theorem rc_sorted {ns : List Int} (hx : QV μ x (numS ns)) (q : ∀ ns', ns'.Perm ns → ns'.Pairwise (· ≤ ·) → NewL k μ (numS ns')) : Rc (rSortedA K) [x] μ k := fun S H vs c sv Q p => by
  obtain ⟨v, rfl, s⟩ := svs1 sv
  obtain ⟨a, vs, rfl, h, p1⟩ := hx.at_ (K := K) c s
  rw [ints_at p1] at h
  exact ⟨a, ns, rfl, h, fun ns' t h1 h2 ht => post_new p c (of_ints ns') ht (q ns' h1 h2)⟩
/-! tuple(..), list(..), abs, int -/
def rTupleA (K : PySem.W.Frag) : List V → Hp → VK → Prop := fun xs H Q => ∃ p ys, xs = [V.ref p] ∧ ((SqL K H p ys ∧ ∀ l, H l = none → Q (.ref l) (upd H l (.tup ys))) ∨ (SqT K H p ys ∧ Q (.ref p) H))
theorem cr_tuple {X : Cx} : CallR X (.type "tuple") (rTupleA X.K) := call_tuple_of
theorem rc_tuple {ds : List PyData} (hx : LV μ x (ds.map .im)) (q : k (.im (.tuple ds)) μ) : Rc (rTupleA K) [x] μ k := fun S H vs c sv Q p => by
  obtain ⟨v, rfl, s⟩ := svs1 sv
  obtain ⟨a, vs, rfl, h, p1⟩ := hx.at_ c s
  exact ⟨a, vs, rfl, .inl ⟨.of h, fun t ht => post_tup p c (ims_da p1) ht q⟩⟩
theorem rc_tupleT {ds : List PyData} (q : k (.im (.tuple ds)) μ) : Rc (rTupleA K) [.im (.tuple ds)] μ k := fun S H vs c sv Q p => by
  obtain ⟨v, rfl, s⟩ := svs1 sv
  obtain ⟨a, vs, rfl, e, n, d⟩ := da_tup s
  exact ⟨a, vs, rfl, .inr ⟨.of e, p.here q c s⟩⟩
def rListA (K : PySem.W.Frag) : List V → Hp → VK → Prop := fun xs H Q => ∃ p ys, xs = [V.ref p] ∧ (SqL K H p ys ∨ SqT K H p ys) ∧ ∀ l, H l = none → Q (.ref l) (upd H l (.lst ys))
theorem cr_list {X : Cx} : CallR X (.type "list") (rListA X.K) := call_list_of
theorem rc_list (hx : QV μ x xs) (q : NewL k μ xs) : Rc (rListA K) [x] μ k := fun S H vs c sv Q p => by
  obtain ⟨v, rfl, s⟩ := svs1 sv
  obtain ⟨a, vs, rfl, h, p1⟩ := hx.at_ (K := K) c s
  exact ⟨a, vs, rfl, h, fun t ht => post_new p c p1 ht q⟩
def rAbs : List V → Hp → VK → Prop := fun xs H Q => ∃ i, xs = [.int i] ∧ Q (.int (if i < 0 then -i else i)) H
theorem cr_abs {X : Cx} : CallR X (.builtin "abs") rAbs := call_abs
theorem rc_abs {i : Int} (q : k (.im (.int (if i < 0 then -i else i))) μ) : Rc rAbs [.im (.int i)] μ k := fun S H vs c sv Q p => by
  obtain ⟨v, rfl, s⟩ := svs1 sv
  cases s
  exact ⟨i, rfl, p.here q c (Da.int _)⟩
def rInt1 : List V → Hp → VK → Prop := fun xs H Q => (∃ i, xs = [.int i] ∧ Q (.int i) H) ∨ ∃ k, xs = [.bl k] ∧ Q (.int (if k then 1 else 0)) H
theorem cr_int {X : Cx} : CallR X (.type "int") rInt1 := call_int1
theorem rc_intB {b : Bool} (q : k (.im (.int (if b then 1 else 0))) μ) : Rc rInt1 [.im (.bool b)] μ k := fun S H vs c sv Q p => by
  obtain ⟨v, rfl, s⟩ := svs1 sv
  cases s
  exact .inr ⟨b, rfl, p.here q c (Da.int _)⟩
/-! index of an int -/
theorem rm_index {ns : List Int} {n : Int} {j : Nat} (hx : LV μ x (numS ns)) (hj : ns[j]? = some n) (hf : ∀ m z, m < j → ns[m]? = some z → z ≠ n) (q : k (.im (.int j)) μ) : Rm (rIndex K) x [.im (.int n)] μ k := fun S H vx vs c sx svs Q p => by
  obtain ⟨a, ws, rfl, e, p1⟩ := hx.at_ c sx
  have e1 := ints_at p1
  subst e1
  obtain ⟨v, rfl, s⟩ := svs1 svs
  cases s
  refine ⟨a, _, .int n, j, .int n, rfl, rfl, .of e, rfl, ?_, ?_, ?_, fun m z hm hz => ?_, p.here q c (Da.int _)⟩
  · rw [List.all_map]
    exact List.all_eq_true.mpr fun _ _ => rfl
  · rw [List.getElem?_map, hj]; rfl
  · show (n == n) = true
    exact beq_self_eq_true n
  · rw [List.getElem?_map] at hz
    cases q : ns[m]? with
    | none => rw [q] at hz; cases hz
    | some w =>
      rw [q] at hz
      cases hz
      show (w == n) = false
      exact beq_eq_false_iff_ne.mpr (hf m w hm q)
/-! < of data -/
def rLtA (K : PySem.W.Frag) : R2 := fun x y H Q => (rI0 fun i j => .bl (decide (i < j))) x y H Q ∨ rLtD K x y H Q
theorem op_ltA {X : Cx} {n : Nat} (hr : Room n X.A) : OpR X (compareOp .Lt) (rLtA X.K) := op_lt.or (op_ltD (room128 hr))
theorem rv_lt {i j : Int} (q : k (.im (.bool (decide (i < j)))) μ) : Rv (rLtA K) (.im (.int i)) (.im (.int j)) μ k := Rv.lf (rv_b0 q)
theorem rv_ltD {d e : PyData} (s1 : SeqAt.shaped d = true) (s2 : SeqAt.shaped e = true) (hc : cmpD d e = true) (q : k (.im (.bool (ltD d e))) μ) : Rv (rLtA K) (.im d) (.im e) μ k := Rv.rt fun S H vx vy c sx sy Q p =>
  ⟨d, e, da_dp d _ sx, da_dp e _ sy, s1, s2, hc, p.here q c (Da.bl _)⟩
end
end J
/-! J7: defs by name, built-ins by name, and the steps of a walk. -/
namespace J
open PySem PySem.Spec PyProof.Rows L2
theorem bt_len : bootBuiltins "len" = some (.builtin "len") := boot_len
theorem bt_sum : bootBuiltins "sum" = some (.builtin "sum") := by decide +kernel
theorem bt_max : bootBuiltins "max" = some (.builtin "max") := by decide +kernel
theorem bt_min : bootBuiltins "min" = some (.builtin "min") := by decide +kernel
theorem bt_sorted : bootBuiltins "sorted" = some (.builtin "sorted") := by decide +kernel
theorem bt_abs : bootBuiltins "abs" = some (.builtin "abs") := by decide +kernel
theorem bt_tuple : bootBuiltins "tuple" = some (.type "tuple") := by decide +kernel
theorem bt_list : bootBuiltins "list" = some (.type "list") := by decide +kernel
theorem bt_int : bootBuiltins "int" = some (.type "int") := by decide +kernel
theorem bt_str : bootBuiltins "str" = some (.type "str") := by decide +kernel
/-- the module's name x is a def that keeps the promise sp -/
structure Def (P : Program) (w : World) (K : PySem.W.Frag) (mg : Str → Option Value) (base : Heap) (x : Str) (ps : List Str) (n : Nat) (sp : Sp) : Prop where
  ex : ∃ f fd, FnOk P w K mg base CX0 n f fd ps sp ∧ mg x = some (.ref f) ∧ PySem.W.keepIn K (.ref f) = true ∧ Binds K fd ps []
section
variable {X : Cx} {x : Str} {ps : List Str} {n m : Nat} {sp : Sp} {e : Expr} {es : List Expr} {t : TA} {p pos : Pos}
theorem pe_callJ (D : Def X.prog X.w X.K X.mg X.base x ps n sp) (hr : Room m X.A) (ha : PA X (e :: es) t) (h : n ≤ m := by decide) (hg : Gl X x := by rfl) (hdb : (x == ("__debug__" : Str)) = false := by decide) (he : starEach (e :: es) X.env = (false, eval e X.env) :: starEach es X.env := by rfl) (hpl : (backTo pos (starEach es X.env)).any (·.1) = false := by rfl) :
    PE X (.Call (.Name x p) (e :: es) [] pos) (tCall sp [] E0 t) := by
  obtain ⟨f, fd, F, hm, hk, hb⟩ := D.ex
  exact pe_call (F.mono h) hr hg hm hk hb .nil pass0 ha hdb he hpl
theorem pe_callJ0 (D : Def X.prog X.w X.K X.mg X.base x ps n sp) (hr : Room m X.A) (h : n ≤ m := by decide) (hg : Gl X x := by rfl) (hdb : (x == ("__debug__" : Str)) = false := by decide) : PE X (.Call (.Name x p) [] [] pos) (tCall sp [] E0 tNil) := by
  obtain ⟨f, fd, F, hm, hk, hb⟩ := D.ex
  exact pe_call0 (F.mono h) hr hg hm hk hb .nil pass0 hdb
end
section
variable {k : SD → Store → Prop} {ρ : Ren} {μ : Store} {ta tb te : TE}
theorem ev_andV (h : Ev ta ρ μ fun x μ1 => ∃ b, x = .im (.bool b) ∧ (b = true → Ev tb ρ μ1 k) ∧ (b = false → k (.im (.bool false)) μ1)) : Ev (tAndV ta tb) ρ μ k := fun S σ H c e Q p =>
  h S σ H c e _ fun x μ1 v S1 H1 ⟨b, eb, h1, h2⟩ c1 s1 sv => by
    subst eb
    cases sv
    refine ⟨b, rfl, ?_⟩
    cases b with
    | true => exact h1 rfl S1 σ H1 c1 (e.step s1) Q (p.after s1)
    | false => exact p _ μ1 (.bl false) S1 H1 (h2 rfl) c1 s1 (Da.bl false)
theorem ev_orV (h : Ev ta ρ μ fun x μ1 => ∃ b, x = .im (.bool b) ∧ (b = true → k (.im (.bool true)) μ1) ∧ (b = false → Ev tb ρ μ1 k)) : Ev (tOrV ta tb) ρ μ k := fun S σ H c e Q p =>
  h S σ H c e _ fun x μ1 v S1 H1 ⟨b, eb, h1, h2⟩ c1 s1 sv => by
    subst eb
    cases sv
    refine ⟨b, rfl, ?_⟩
    cases b with
    | true => exact p _ μ1 (.bl true) S1 H1 (h1 rfl) c1 s1 (Da.bl true)
    | false => exact h2 rfl S1 σ H1 c1 (e.step s1) Q (p.after s1)
theorem ev_notV (h : Ev ta ρ μ fun x μ1 => ∃ b, x = .im (.bool b) ∧ k (.im (.bool (!b))) μ1) : Ev (tNotV ta) ρ μ k := fun S σ H c e Q p =>
  h S σ H c e _ fun x μ1 v S1 H1 ⟨b, eb, h1⟩ c1 s1 sv => by
    subst eb
    cases sv
    exact ⟨b, rfl, p _ μ1 (.bl (!b)) S1 H1 h1 c1 s1 (Da.bl _)⟩
theorem evt_yes {kb : Bool → Store → Prop} (q : kb true μ) : EvT tYes ρ μ kb := fun S σ H c e Q p => p true μ S H q c c.refl
end
section
variable {g : G} {t u : TS} {D : Ends} {ρ : Ren} {μ : Store} {te ta tb : TE} {tt : TT} {tg : TG} {wi : TI}
theorem nxt_seq (h : Go g (tSeq t u) D ρ μ) : Nxt g (tSeq t u D) ρ μ := h
theorem nxt_ret (h : Go g (tRet te) D ρ μ) : Nxt g (tRet te D) ρ μ := h
theorem nxt_asg (h : Go g (tAsg te tg) D ρ μ) : Nxt g (tAsg te tg D) ρ μ := h
theorem nxt_if (h : Go g (tIfS tt t u) D ρ μ) : Nxt g (tIfS tt t u D) ρ μ := h
theorem nxt_for (h : Go g (tFor wi tg t) D ρ μ) : Nxt g (tFor wi tg t D) ρ μ := h
theorem nxt_while (h : Go g (tWhile tt t) D ρ μ) : Nxt g (tWhile tt t D) ρ μ := h
theorem nxt_drop (h : Go g (tDrop te) D ρ μ) : Nxt g (tDrop te D) ρ μ := h
theorem nxt_cut (h : Go g (Evl.tCut t u) D ρ μ) : Nxt g (Evl.tCut t u D) ρ μ := h
theorem nxt_aug {i : Nat} {ti : TIp} (h : Go g (tAug i te ti) D ρ μ) : Nxt g (tAug i te ti D) ρ μ := h
theorem nxt_next (h : Nxt g D.nx ρ μ) : Nxt g (tNext D) ρ μ := h
end
end J
/-! J8: comprehensions over data, forgetting, rows of cells, the data that are shaped. -/
namespace J
open PySem PySem.Spec PyProof.Rows L2
section
variable {g : G} {D : Ends} {ρ ρ' : Ren} {μ μ' : Store} {σ : L2.St} {H : Hp} {S : Av} {te ta tb : TE} {tt : TT} {k : SD → Store → Prop} {K : PySem.W.Frag} {wi : TI} {tg : TG}
/-- pure: the value, nothing changed -/
abbrev Is (d : PyData) (μ : Store) : SD → Store → Prop := fun y μ' => y = .im d ∧ μ' = μ
/-- [e for .. in data] -/
theorem ev_mapD {vs : List Nat} (f : PyData → PyData) (ds : List PyData) {Gd : Store → Prop} (hi : ∀ ki : List SD → (Store → Prop) → Store → Prop, ki (ds.map .im) Gd μ → Iv wi ρ μ ki) (gd : Gd μ) (hl : ds.length < sizeLine)
    (turn : ∀ d ∈ ds, Tg tg (.im d) (wipeR ρ vs) μ vs fun ρ2 μ2 => Ev te ρ2 μ2 (Is (f d) μ)) (q : k (.im (.list (ds.map f))) μ) : Ev (tLc wi tg tYes te vs) ρ μ k := by
  refine ev_map (hi _ ⟨fun i => f (ds.getD i .none), gd, by rw [List.length_map]; exact hl, fun i x hx => ?_, ?_⟩)
  · rw [List.getElem?_map] at hx
    cases e : ds[i]? with
    | none => rw [e] at hx; cases hx
    | some d =>
      rw [e] at hx
      cases hx
      have ed : ds.getD i .none = d := by rw [List.getD_eq_getElem?_getD, e]; rfl
      show Tg tg (SD.im d) (wipeR ρ vs) μ vs fun ρ2 μ2 => Ev te ρ2 μ2 fun y μ4 => y = SD.im (f (ds.getD i PyData.none)) ∧ μ4 = μ
      rw [ed]
      exact turn d (List.mem_of_getElem? e)
  · have e : ((List.range (ds.map SD.im).length).map fun i => SD.im (f (ds.getD i .none))) = (ds.map f).map .im := by
      rw [List.length_map, List.map_map]
      apply List.ext_getElem?
      intro i
      rw [List.getElem?_map, List.getElem?_map]
      by_cases hi : i < ds.length
      · rw [List.getElem?_range hi, List.getElem?_eq_getElem hi]
        show some (SD.im (f (ds.getD i PyData.none))) = some (SD.im (f ds[i]))
        rw [List.getD_eq_getElem?_getD, List.getElem?_eq_getElem hi]
        rfl
      · rw [List.getElem?_eq_none (by rw [List.length_range]; omega), List.getElem?_eq_none (by omega)]
        rfl
    rw [e]
    exact .d q
/-- [x for x in data if ..] -/
theorem ev_filterD {vs : List Nat} (b : PyData → Bool) (f : PyData → PyData) (ds : List PyData) {Gd : Store → Prop} (hi : ∀ ki : List SD → (Store → Prop) → Store → Prop, ki (ds.map .im) Gd μ → Iv wi ρ μ ki) (gd : Gd μ) (hl : ds.length < sizeLine)
    (turn : ∀ d ∈ ds, Tg tg (.im d) (wipeR ρ vs) μ vs fun ρ2 μ2 => EvT tt ρ2 μ2 fun c μ3 => c = b d ∧ (c = true → Ev te ρ2 μ3 (Is (f d) μ)) ∧ μ3 = μ) (q : k (.im (.list ((ds.filter b).map f))) μ) : Ev (tLc wi tg tt te vs) ρ μ k := by
  refine ev_lc (hi _ ⟨fun i acc μ' => μ' = μ ∧ i ≤ ds.length ∧ acc = (((ds.take i).filter b).map f).map .im, ⟨rfl, Nat.zero_le _, rfl⟩, fun i x acc μ' hx ⟨e1, hle, ea⟩ => ?_, fun acc μ' ⟨e1, hle, ea⟩ => ?_⟩)
  · subst e1 ea
    have hi := (List.getElem?_eq_some_iff.mp hx).1
    rw [List.length_map] at hi
    have e : ds[i]? = some ds[i] := List.getElem?_eq_getElem hi
    rw [List.getElem?_map, e] at hx
    cases hx
    refine ⟨gd, ?_, ?_⟩
    · rw [List.length_map, List.length_map]
      have h1 := List.length_filter_le b (ds.take i)
      rw [List.length_take] at h1
      omega
    · intro S σ H v c e' sv Q p
      refine turn ds[i] (List.getElem_mem hi) S σ H v c e' sv Q fun ρ2 μ3 S2 H2 σ2 hk => p ρ2 μ3 S2 H2 σ2 ?_
      intro S3 σ3 H3 c3 e3 Q3 p3
      refine hk S3 σ3 H3 c3 e3 Q3 fun r μ4 S4 H4 ⟨h1, h2, h3⟩ => p3 r μ4 S4 H4 ⟨fun hr => (h2 hr).mono fun y μ5 ⟨ey, em⟩ => ⟨em, hi, ?_⟩, fun hr => ⟨h3, hi, ?_⟩⟩
      · rw [ey, List.take_add_one, e, List.filter_append, List.map_append, List.map_append]
        have : b ds[i] = true := by rw [← h1]; exact hr
        show _ = _ ++ ((([ds[i]] : List PyData).filter b).map f).map SD.im
        rw [List.filter_cons_of_pos this]
        rfl
      · rw [List.take_add_one, e, List.filter_append, List.map_append, List.map_append]
        have : ¬ b ds[i] = true := by rw [← h1, hr]; exact Bool.false_ne_true
        show _ = _ ++ ((([ds[i]] : List PyData).filter b).map f).map SD.im
        rw [List.filter_cons_of_neg this]
        exact (List.append_nil _).symm
  · subst e1 ea
    rw [List.length_map, List.take_length]
    exact ⟨gd, .d q⟩
theorem iv_seqL {ds : List PyData} {tl : TE} {ki : List SD → (Store → Prop) → Store → Prop} (h : Ev tl ρ μ (Is (.list ds) μ)) (q : ki (ds.map .im) free μ) : Iv (iSeq K tl) ρ μ ki := iv_list (h.mono fun y μ' ⟨e1, e2⟩ => ⟨ds, e1, by rw [e2]; exact q⟩)
theorem iv_seqT {ds : List PyData} {tl : TE} {ki : List SD → (Store → Prop) → Store → Prop} (h : Ev tl ρ μ (Is (.tuple ds) μ)) (q : ki (ds.map .im) free μ) : Iv (iSeq K tl) ρ μ ki := iv_tup (h.mono fun y μ' ⟨e1, e2⟩ => ⟨ds, e1, by rw [e2]; exact q⟩)
/-! ### forgetting slots -/
inductive Fg : Ren → Ren → Prop
  | nil : Fg [] []
  | keep {x : Option SD} {l l' : Ren} : Fg l l' → Fg (x :: l) (x :: l')
  | drop {x : Option SD} {l l' : Ren} : Fg l l' → Fg (x :: l) (none :: l')
theorem Fg.len : ∀ {l l' : Ren}, Fg l l' → l'.length = l.length
  | _, _, .nil => rfl
  | _, _, .keep h => by rw [List.length_cons, List.length_cons, Fg.len h]
  | _, _, .drop h => by rw [List.length_cons, List.length_cons, Fg.len h]
theorem Fg.get : ∀ {l l' : Ren}, Fg l l' → ∀ (i : Nat) (x : SD), l'[i]? = some (some x) → l[i]? = some (some x)
  | _, _, .nil, i, x, h => h
  | _, _, .keep h, 0, x, e => e
  | _, _, .keep h, i + 1, x, e => Fg.get h i x (by simpa using e)
  | _, _, .drop h, 0, x, e => by cases e
  | _, _, .drop h, i + 1, x, e => Fg.get h i x (by simpa using e)
theorem Fg.refl : ∀ l : Ren, Fg l l
  | [] => .nil
  | _ :: l => .keep (Fg.refl l)
theorem nxt_weak {P : L2.St → Hp → Prop} (h : Nxt g P ρ' μ') (f : Fg ρ ρ') (s : μ'.Sublist μ) : Nxt g P ρ μ := fun σ H st => h σ H (st.weak f.len f.get s)
/-- a loop's turn ends: some slots and cells are forgotten -/
theorem nxt_nxw {P : Ren → Store → Prop} (h : P ρ' μ') (f : Fg ρ ρ') (s : μ'.Sublist μ) : Nxt g (Nx g P) ρ μ := nxt_weak (nxt_nx h) f s
theorem go_weak {t : TS} (h : Go g t D ρ' μ') (f : Fg ρ ρ') (s : μ'.Sublist μ) : Go g t D ρ μ := h.weak f.len f.get s
theorem go_permF {t : TS} (h : Go g t D ρ' μ') (f : Fg ρ ρ') (s : μ'.Perm μ) : Go g t D ρ μ := (h.weak f.len f.get (List.Sublist.refl _)).perm s
/-! ### rows: a list of lists that change -/
def mkC (qs : List Addr) (rows : List (List SD)) : Store := List.zipWith (fun q r => (q, Cell.lst r)) qs rows
theorem mkC_get {qs : List Addr} {rows : List (List SD)} {i : Nat} {q : Addr} {r : List SD} (h1 : qs[i]? = some q) (h2 : rows[i]? = some r) : (mkC qs rows)[i]? = some (q, .lst r) := by
  unfold mkC
  rw [List.getElem?_zipWith, h1, h2]
theorem mkC_set : ∀ (qs : List Addr) (rows : List (List SD)) (i : Nat) (q : Addr) (r : List SD), qs[i]? = some q → (mkC qs rows).set i (q, .lst r) = mkC qs (rows.set i r)
  | [], rows, i, q, r, h => by simp at h
  | q0 :: qs, [], i, q, r, h => by unfold mkC; simp
  | q0 :: qs, r0 :: rows, 0, q, r, h => by
    cases h
    rfl
  | q0 :: qs, r0 :: rows, i + 1, q, r, h => by
    show (q0, Cell.lst r0) :: (mkC qs rows).set i (q, .lst r) = (q0, Cell.lst r0) :: mkC qs (rows.set i r)
    rw [mkC_set qs rows i q r (by simpa using h)]
theorem mkC_snoc (qs : List Addr) (rows : List (List SD)) (q : Addr) (r : List SD) (h : qs.length = rows.length) : mkC (qs ++ [q]) (rows ++ [r]) = mkC qs rows ++ [(q, .lst r)] := by
  unfold mkC
  rw [List.zipWith_append h]
  rfl
/-! ### shaped data -/
theorem shaped_of {d : PyData} (h1 : d.canLay0 = true) (h2 : d.depth ≤ 64) : SeqAt.shaped d = true := by
  show (d.canLay0 && decide (d.depth ≤ 64)) = true
  rw [h1, decide_eq_true h2]
  rfl
theorem layInts (ns : List Int) : PyData.canLayAll0 (ns.map .int) = true := by
  induction ns with
  | nil => rfl
  | cons n ns ih => simp only [List.map_cons, PyData.canLayAll0, PyData.canLay0, ih, Bool.and_self]
theorem depInts (ns : List Int) : PyData.depthAll (ns.map .int) = 0 := by
  induction ns with
  | nil => rfl
  | cons n ns ih => simp only [List.map_cons, PyData.depthAll, PyData.depth, ih, Nat.max_self]
theorem eqvInts : ∀ (ns ms : List Int), PyData.eqvAll (ns.map .int) (ms.map .int) = decide (ns = ms)
  | [], [] => by simp [PyData.eqvAll]
  | [], _ :: _ => by simp [PyData.eqvAll]
  | _ :: _, [] => by simp [PyData.eqvAll]
  | n :: ns, m :: ms => by
    simp only [List.map_cons, PyData.eqvAll, PyData.eqv, eqvInts ns ms]
    by_cases h : n = m
    · subst h
      simp
    · rw [show (n == m) = false from beq_eq_false_iff_ne.mpr h]
      simp [h]
theorem ltInts : ∀ (ns ms : List Int), ltDs (ns.map .int) (ms.map .int) = HT.lexLt ns ms
  | [], [] => rfl
  | [], _ :: _ => rfl
  | _ :: _, [] => rfl
  | n :: ns, m :: ms => by
    simp only [List.map_cons, ltDs, PyData.eqv, ltD, HT.lexLt, ltInts ns ms]
    by_cases h : n = m
    · subst h
      simp
    · rw [show (n == m) = false from beq_eq_false_iff_ne.mpr h]
      simp [h]
theorem cmpInts : ∀ (ns ms : List Int), cmpDs (ns.map .int) (ms.map .int) = true
  | [], [] => rfl
  | [], _ :: _ => rfl
  | _ :: _, [] => rfl
  | n :: ns, m :: ms => by
    simp only [List.map_cons, cmpDs, cmpInts ns ms, cmpD]
    split <;> rfl
theorem qv_tupI {μ : Store} (ns : List Int) : QV μ (.im (.tuple (ns.map .int))) (numS ns) := by
  rw [ints_ims]
  exact .t _
theorem qv_lstI {μ : Store} (ns : List Int) : QV μ (.im (.list (ns.map .int))) (numS ns) := by
  rw [ints_ims]
  exact .l _
theorem rc_sumCut {ns : List Int} {lo hi : Option Int} (q : k (.im (.int (cutL ns lo hi).sum)) μ) : Rc (rSumA K) [.im (.tuple (cutL (ns.map .int) lo hi))] μ k := by
  rw [cutL_map]
  exact rc_sum (qv_tupI _) q
theorem atI_map {α β : Type} {f : α → β} {xs : List α} {i : Int} {y : α} (e : atI xs i = some y) : atI (xs.map f) i = some (f y) := by
  unfold atI at e ⊢
  rw [List.length_map]
  cases z : ixN xs.length i with
  | none => rw [z] at e; cases e
  | some j =>
    rw [z] at e
    show (xs.map f)[j]? = some (f y)
    rw [List.getElem?_map, show xs[j]? = some y from e]
    rfl
end
end J
/-! J9: the rules with the written part named. -/
namespace J
open PySem PySem.Spec PyProof.Rows L2
section
variable {X : Cx} {K : PySem.W.Frag} {n : Nat} {e o l tg a b : Expr} {te ta tb tl to : TE} {es : List Expr} {t : TA}
theorem k_plus (h : X.K = K) : OpR X (binaryOp .Add) (rPlus K) := h ▸ op_plus
theorem k_eq (h : X.K = K) (hr : Room n X.A) : OpR X (compareOp .Eq) (rEqA K) := h ▸ op_eqA hr
theorem k_ne (h : X.K = K) (hr : Room n X.A) : OpR X (compareOp .NotEq) (rNeA K) := h ▸ op_neA hr
theorem k_lt (h : X.K = K) (hr : Room n X.A) : OpR X (compareOp .Lt) (rLtA K) := h ▸ op_ltA hr
theorem k_ix (h : X.K = K) : IxR X (rIx K) := h ▸ ix_seq
theorem k_sl (h : X.K = K) : SlR X (rSl K) := h ▸ sl_any
theorem k_len (h : X.K = K) : CallR X (.builtin "len") (rLenA K) := h ▸ cr_len
theorem k_sum (h : X.K = K) (hc : X.calm = true) : CallR X (.builtin "sum") (rSumA K) := h ▸ cr_sumA hc
theorem k_max (h : X.K = K) (hc : X.calm = true) : CallR X (.builtin "max") (rMaxJ K) := h ▸ cr_maxJ hc
theorem k_min (h : X.K = K) (hc : X.calm = true) (hr : Room n X.A) : CallR X (.builtin "min") (rMinJ K) := h ▸ cr_minJ hc hr
theorem k_sorted (h : X.K = K) : CallR X (.builtin "sorted") (rSortedA K) := h ▸ cr_sortedA
theorem k_tuple (h : X.K = K) : CallR X (.type "tuple") (rTupleA K) := h ▸ cr_tuple
theorem k_list (h : X.K = K) : CallR X (.type "list") (rListA K) := h ▸ cr_list
theorem k_rev {k : Nat} {p1 p2 p3 pos : Pos} (h : X.K = K) (he : PE X e te) : PE X (.Subscript e (.Slice none none (some (.UnaryOp .USub (.Constant (.int 1) k p1) p2)) p3) pos) (tRevA K te) := h ▸ pe_revA he
theorem k_seq (h : X.K = K) (hl : PE X l tl) : PI X tg l (iSeq K tl) := h ▸ pi_seq hl
theorem k_index (h : X.K = K) : MtR X "list.index" (rIndex K) := h ▸ mt_index
theorem k_bm0 {name : Str} {T id : String} {r : V → List V → Hp → VK → Prop} {apos cpos : Pos} (h : X.K = K) (pa : PlainAttrs T) (slot : Slot T name id) (hty : typeOf (.builtin id) = pure (.type "method_descriptor")) (hm : MtR X id r) (ho : PE X o to)
    (hbase : attributeBase o name X.env (eval o X.env) = eval o X.env := by rfl) (hline : (apos.endLine == cpos.line) = true := by rfl) : PE X (.Call (.Attribute o name apos) [] [] cpos) (tBM0 K T r to) := h ▸ pe_bm0 pa slot hty hm ho hbase hline
theorem k_bm {name : Str} {T id : String} {r : V → List V → Hp → VK → Prop} {apos cpos : Pos} (h : X.K = K) (pa : PlainAttrs T) (slot : Slot T name id) (hty : typeOf (.builtin id) = pure (.type "method_descriptor")) (hm : MtR X id r) (ho : PE X o to) (ha : PA X (e :: es) t)
    (hbase : attributeBase o name X.env (eval o X.env) = eval o X.env := by rfl)
    (hfew : ((backTo cpos (starEach (e :: es) X.env)).all (fun x => !x.1) && (backToKw cpos (keywordEach [] X.env)).all (fun x => x.1.isSome)
      && decide ((e :: es).length + ([] : List Keyword).length + (if ([] : List Keyword).isEmpty then 0 else 1) < 30)) = true := by rfl)
    (hline : (apos.endLine == cpos.line) = true := by rfl) (hs : starEach (e :: es) X.env = (false, eval e X.env) :: starEach es X.env := by rfl) (hplain : (backTo cpos (starEach es X.env)).any (·.1) = false := by rfl) :
    PE X (.Call (.Attribute o name apos) (e :: es) [] cpos) (tBM K T r to t) := h ▸ pe_bm pa slot hty hm ho ha hbase hfew hline hs hplain
theorem k_enum {p pos tpos : Pos} {elts : List Expr} {kk : Nat} {ta : TA} (h : X.K = K) (hg : Gl X "enumerate") (hm : X.mg "enumerate" = none) (ha : PA X [e] ta) (hs : starEach [e] X.env = [(false, eval e X.env)] := by rfl) :
    PI X (.Tuple elts kk tpos) (.Call (.Name "enumerate" p) [e] [] pos) (iEnum K ta) := h ▸ pi_enum hg hm ha hs
theorem k_zip {e2 : Expr} {p pos tpos : Pos} {elts : List Expr} {kk : Nat} {ta : TA} (h : X.K = K) (hg : Gl X "zip") (hm : X.mg "zip" = none) (ha : PA X [e, e2] ta)
    (hs : starEach [e, e2] X.env = (false, eval e X.env) :: starEach [e2] X.env := by rfl) (hpl : (backTo pos (starEach [e2] X.env)).any (·.1) = false := by rfl) :
    PI X (.Tuple elts kk tpos) (.Call (.Name "zip" p) [e, e2] [] pos) (RZ.iZipA K ta) := h ▸ RZ.pi_zipA hg hm ha hs hpl
theorem k_tup {es : List Expr} {k : Nat} {pos : Pos} {t : TGs} {n : Nat} (h0 : X.K = K) (hc : X.calm = true) (h : PGs X es t)
    (hn : (assignEach es X.env).length = n := by rfl) (hst : (assignEach es X.env).findIdx? (·.1) = none := by rfl) : PG X (.Tuple es k pos) (gTup K n t) := h0 ▸ pg_tup hc h hn hst
end
section
variable {k : SD → Store → Prop} {ρ : Ren} {μ : Store} {ta tb tc td : TE}
theorem ev_tup1 (h : Ev ta ρ μ fun x μ1 => ∃ d, x = .im d ∧ k (.im (.tuple [d])) μ1) : Ev (tTup (tCons ta tNil)) ρ μ k :=
  ev_tup (eva_cons (h.mono fun x μ1 ⟨d, ex, q⟩ => eva_nil ⟨[d], by rw [ex]; rfl, by show 1 ≤ sizeLine; decide, q⟩))
theorem ev_tup2 (h : Ev ta ρ μ fun x μ1 => Ev tb ρ μ1 fun y μ2 => ∃ d e, x = .im d ∧ y = .im e ∧ k (.im (.tuple [d, e])) μ2) : Ev (tTup (tCons ta (tCons tb tNil))) ρ μ k :=
  ev_tup (eva_cons (h.mono fun x μ1 h => eva_cons (h.mono fun y μ2 ⟨d, e, ex, ey, q⟩ => eva_nil ⟨[d, e], by rw [ex, ey]; rfl, by show 2 ≤ sizeLine; decide, q⟩)))
theorem ev_tup3 (h : Ev ta ρ μ fun x μ1 => Ev tb ρ μ1 fun y μ2 => Ev tc ρ μ2 fun z μ3 => ∃ d e f, x = .im d ∧ y = .im e ∧ z = .im f ∧ k (.im (.tuple [d, e, f])) μ3) : Ev (tTup (tCons ta (tCons tb (tCons tc tNil)))) ρ μ k :=
  ev_tup (eva_cons (h.mono fun x μ1 h => eva_cons (h.mono fun y μ2 h => eva_cons (h.mono fun z μ3 ⟨d, e, f, ex, ey, ez, q⟩ => eva_nil ⟨[d, e, f], by rw [ex, ey, ez]; rfl, by show 3 ≤ sizeLine; decide, q⟩))))
theorem ev_lst1 (h : Ev ta ρ μ fun x μ1 => ∃ d, x = .im d ∧ k (.im (.list [d])) μ1) : Ev (tLst (tCons ta tNil)) ρ μ k :=
  ev_lst (eva_cons (h.mono fun x μ1 ⟨d, ex, q⟩ => eva_nil ⟨[d], by rw [ex]; rfl, by show 1 ≤ sizeLine; decide, q⟩))
theorem ev_lst2 (h : Ev ta ρ μ fun x μ1 => Ev tb ρ μ1 fun y μ2 => ∃ d e, x = .im d ∧ y = .im e ∧ k (.im (.list [d, e])) μ2) : Ev (tLst (tCons ta (tCons tb tNil))) ρ μ k :=
  ev_lst (eva_cons (h.mono fun x μ1 h => eva_cons (h.mono fun y μ2 ⟨d, e, ex, ey, q⟩ => eva_nil ⟨[d, e], by rw [ex, ey]; rfl, by show 2 ≤ sizeLine; decide, q⟩)))
theorem ev_lst3 (h : Ev ta ρ μ fun x μ1 => Ev tb ρ μ1 fun y μ2 => Ev tc ρ μ2 fun z μ3 => ∃ d e f, x = .im d ∧ y = .im e ∧ z = .im f ∧ k (.im (.list [d, e, f])) μ3) : Ev (tLst (tCons ta (tCons tb (tCons tc tNil)))) ρ μ k :=
  ev_lst (eva_cons (h.mono fun x μ1 h => eva_cons (h.mono fun y μ2 h => eva_cons (h.mono fun z μ3 ⟨d, e, f, ex, ey, ez, q⟩ => eva_nil ⟨[d, e, f], by rw [ex, ey, ez]; rfl, by show 3 ≤ sizeLine; decide, q⟩))))
def nats (n : Nat) : List SD := (List.range n).map fun (i : Nat) => SD.im (.int i)
theorem nats_eq (n : Nat) : upto 0 n = nats n := by
  unfold upto nats
  exact List.map_congr_left fun i _ => by rw [Int.zero_add]
theorem nats_len (n : Nat) : (nats n).length = n := by unfold nats; simp
theorem nats_get {n i : Nat} {x : SD} (h : (nats n)[i]? = some x) : i < n ∧ x = .im (.int i) := by
  have hi : i < n := by
    have := (List.getElem?_eq_some_iff.mp h).1
    rwa [nats_len] at this
  refine ⟨hi, ?_⟩
  unfold nats at h
  rw [List.getElem?_map, List.getElem?_range hi] at h
  exact (Option.some.inj h).symm
theorem upto_at {a : Int} {n i : Nat} {x : SD} (h : (upto a n)[i]? = some x) : i < n ∧ x = .im (.int (a + i)) := by
  have hi : i < n := by
    have := (List.getElem?_eq_some_iff.mp h).1
    rwa [upto_len] at this
  exact ⟨hi, Option.some.inj (h.symm.trans (upto_get hi))⟩
variable {ki : List SD → (Store → Prop) → Store → Prop}
theorem iv_range0 {ta : TA} (h : EvA ta ρ μ fun as μ1 => ∃ n : Int, as = [.im (.int n)] ∧ -(2 ^ 62) ≤ n ∧ n < 2 ^ 62 ∧ ki (nats n.toNat) free μ1) : Iv (iRng1 ta) ρ μ ki := iv_range1 (fun S σ H c e Q p => h S σ H c e Q fun rs μ' vs S' H' ⟨n, a, b, c, d⟩ => p rs μ' vs S' H' ⟨n, a, b, c, by rw [nats_eq]; exact d⟩)
end
end J
/-! M1: the table of cheapest trees by stretches, as a function. -/
namespace J
open PySem L2
/-! ### orders -/
theorem lex_irr : ∀ xs : List Int, HT.lexLt xs xs = false
  | [] => rfl
  | x :: xs => by rw [HT.lexLt_cons, if_pos rfl]; exact lex_irr xs
theorem lex_tr : ∀ xs ys zs : List Int, HT.lexLt xs ys = true → HT.lexLt ys zs = true → HT.lexLt xs zs = true
  | [], [], _, h, _ => by cases h
  | [], _ :: _, [], _, h => by cases h
  | [], _ :: _, _ :: _, _, _ => rfl
  | _ :: _, [], _, h, _ => by cases h
  | _ :: _, _ :: _, [], _, h => by cases h
  | x :: xs, y :: ys, z :: zs, h1, h2 => by
    rw [HT.lexLt_cons] at h1 h2 ⊢
    by_cases e1 : x = y
    · rw [if_pos e1] at h1
      by_cases e2 : y = z
      · rw [if_pos e2] at h2
        rw [if_pos (e1.trans e2)]
        exact lex_tr xs ys zs h1 h2
      · rw [if_neg e2] at h2
        rw [if_neg (by rw [e1]; exact e2), e1]
        exact h2
    · rw [if_neg e1] at h1
      have l1 := of_decide_eq_true h1
      by_cases e2 : y = z
      · rw [if_neg (by rw [← e2]; exact e1)]
        exact decide_eq_true (by omega)
      · rw [if_neg e2] at h2
        have l2 := of_decide_eq_true h2
        rw [if_neg (by omega)]
        exact decide_eq_true (by omega)
theorem lex_tot : ∀ xs ys : List Int, HT.lexLt xs ys = false → HT.lexLt ys xs = false → xs = ys
  | [], [], _, _ => rfl
  | [], _ :: _, h, _ => by cases h
  | _ :: _, [], _, h => by cases h
  | x :: xs, y :: ys, h1, h2 => by
    rw [HT.lexLt_cons] at h1 h2
    by_cases e : x = y
    · subst e
      rw [if_pos rfl] at h1 h2
      rw [lex_tot xs ys h1 h2]
    · rw [if_neg e] at h1
      rw [if_neg (Ne.symm e)] at h2
      have := of_decide_eq_false h1
      have := of_decide_eq_false h2
      omega
abbrev Key2 := Int × List Int
def ltK (a b : Key2) : Bool := if a.1 = b.1 then HT.lexLt a.2 b.2 else decide (a.1 < b.1)
theorem ltK_irr (a : Key2) : ltK a a = false := by unfold ltK; rw [if_pos rfl]; exact lex_irr _
theorem ltK_tr (a b c : Key2) (h1 : ltK a b = true) (h2 : ltK b c = true) : ltK a c = true := by
  unfold ltK at *
  by_cases e1 : a.1 = b.1
  · rw [if_pos e1] at h1
    by_cases e2 : b.1 = c.1
    · rw [if_pos e2] at h2
      rw [if_pos (e1.trans e2)]
      exact lex_tr _ _ _ h1 h2
    · rw [if_neg e2] at h2
      rw [if_neg (by rw [e1]; exact e2), e1]
      exact h2
  · rw [if_neg e1] at h1
    have l1 := of_decide_eq_true h1
    by_cases e2 : b.1 = c.1
    · rw [if_neg (by rw [← e2]; exact e1)]
      exact decide_eq_true (by omega)
    · rw [if_neg e2] at h2
      have l2 := of_decide_eq_true h2
      rw [if_neg (by omega)]
      exact decide_eq_true (by omega)
theorem ltK_tot (a b : Key2) (h1 : ltK a b = false) (h2 : ltK b a = false) : a = b := by
  unfold ltK at *
  by_cases e : a.1 = b.1
  · rw [if_pos e] at h1
    rw [if_pos e.symm] at h2
    exact Prod.ext e (lex_tot _ _ h1 h2)
  · rw [if_neg e] at h1
    rw [if_neg (Ne.symm e)] at h2
    have := of_decide_eq_false h1
    have := of_decide_eq_false h2
    omega
theorem ltK_le {a b : Key2} (h : ltK a b = false) : b.1 ≤ a.1 := by
  unfold ltK at h
  by_cases e : a.1 = b.1
  · omega
  · rw [if_neg e] at h
    have := of_decide_eq_false h
    omega
theorem argBest_least {α : Type} (lt : α → α → Bool) (irr : ∀ a, lt a a = false) (tr : ∀ a b c, lt a b = true → lt b c = true → lt a c = true) (f : Nat → α) :
    ∀ n, ∀ j, j ≤ n → lt (f j) (f (argBest (fun i j => lt (f i) (f j)) n)) = false := by
  intro n
  induction n with
  | zero => intro j hj; rw [Nat.le_zero.mp hj]; exact irr _
  | succ n ih =>
    intro j hj
    unfold argBest
    cases h : lt (f (n + 1)) (f (argBest (fun i j => lt (f i) (f j)) n)) with
    | true =>
      rw [if_pos rfl]
      by_cases e : j = n + 1
      · rw [e]; exact irr _
      · have h0 := ih j (by omega)
        cases q : lt (f j) (f (n + 1)) with
        | false => rfl
        | true =>
          rw [tr _ _ _ q h] at h0
          cases h0
    | false =>
      rw [if_neg Bool.false_ne_true]
      by_cases e : j = n + 1
      · rw [e]; exact h
      · exact ih j (by omega)
/-! ### trees and candidates -/
inductive Tr where
  | lf (i : Nat)
  | nd (l r : Tr)
  deriving DecidableEq, Repr
structure Cand where
  c : Int
  ds : List Int
  t : Tr
  deriving DecidableEq
def dfl : Cand := ⟨0, [0], .lf 0⟩
def keyC (x : Cand) : Key2 := (x.c, x.ds)
def comb (w : Int) (l r : Cand) : Cand := ⟨l.c + r.c + w, (l.ds ++ r.ds).map (· + 1), .nd l.t r.t⟩
def leastIx (cs : List Cand) : Nat := argBest (fun i j => ltK (keyC (cs.getD i dfl)) (keyC (cs.getD j dfl))) (cs.length - 1)
def leastK (cs : List Cand) : Key2 := keyC (cs.getD (leastIx cs) dfl)
def pick (cs : List Cand) : Cand := (cs.filter fun x => decide (keyC x = leastK cs)).headD dfl
theorem leastIx_lt {cs : List Cand} (h : cs ≠ []) : leastIx cs < cs.length := by
  have := argBest_lt' (cs.length - 1) fun i j => ltK (keyC (cs.getD i dfl)) (keyC (cs.getD j dfl))
  have : 0 < cs.length := List.length_pos_iff.mpr h
  unfold leastIx
  omega
theorem getD_mem' {α : Type} {l : List α} {i : Nat} {d : α} (h : i < l.length) : l.getD i d ∈ l := by
  rw [List.getD_eq_getElem?_getD, List.getElem?_eq_getElem h]
  exact List.getElem_mem _
theorem least_le {cs : List Cand} {x : Cand} (h : x ∈ cs) : ltK (keyC x) (leastK cs) = false := by
  obtain ⟨j, hj, e⟩ := List.mem_iff_getElem.mp h
  have := argBest_least ltK ltK_irr ltK_tr (fun i => keyC (cs.getD i dfl)) (cs.length - 1) j (by omega)
  have ej : cs.getD j dfl = x := by rw [List.getD_eq_getElem?_getD, List.getElem?_eq_getElem hj]; exact e
  rw [ej] at this
  exact this
theorem filt_ne {cs : List Cand} (h : cs ≠ []) : (cs.filter fun x => decide (keyC x = leastK cs)) ≠ [] := by
  intro e
  have hm : cs.getD (leastIx cs) dfl ∈ cs := getD_mem' (leastIx_lt h)
  have : cs.getD (leastIx cs) dfl ∈ cs.filter fun x => decide (keyC x = leastK cs) := List.mem_filter.mpr ⟨hm, decide_eq_true rfl⟩
  rw [e] at this
  cases this
theorem pick_mem {cs : List Cand} (h : cs ≠ []) : pick cs ∈ cs ∧ keyC (pick cs) = leastK cs := by
  unfold pick
  cases e : cs.filter fun x => decide (keyC x = leastK cs) with
  | nil => exact absurd e (filt_ne h)
  | cons x r =>
    have : x ∈ cs.filter fun x => decide (keyC x = leastK cs) := by rw [e]; exact List.mem_cons_self
    obtain ⟨h1, h2⟩ := List.mem_filter.mp this
    exact ⟨h1, of_decide_eq_true h2⟩
theorem pick_le {cs : List Cand} {x : Cand} (h : x ∈ cs) : ltK (keyC x) (keyC (pick cs)) = false := by
  rw [(pick_mem (List.ne_nil_of_mem h)).2]
  exact least_le h
/-! ### the best of a stretch -/
def wsum (ns : List Int) (f L : Nat) : Int := ((ns.drop f).take L).sum
def B (ns : List Int) (L f : Nat) : Cand :=
  if L ≤ 1 then ⟨0, [0], .lf f⟩
  else pick ((List.range (L - 1)).attach.map fun p => comb (wsum ns f L) (B ns (p.1 + 1) f) (B ns (L - 1 - p.1) (f + p.1 + 1)))
termination_by L
decreasing_by
  · have := List.mem_range.mp p.2; omega
  · have := List.mem_range.mp p.2; omega
def cands (ns : List Int) (L f : Nat) : List Cand := (List.range (L - 1)).map fun p => comb (wsum ns f L) (B ns (p + 1) f) (B ns (L - 1 - p) (f + p + 1))
theorem B_one (ns : List Int) {L : Nat} (f : Nat) (h : L ≤ 1) : B ns L f = ⟨0, [0], .lf f⟩ := by
  rw [B]
  rw [if_pos h]
theorem B_more (ns : List Int) {L : Nat} (f : Nat) (h : 2 ≤ L) : B ns L f = pick (cands ns L f) := by
  rw [B]
  rw [if_neg (by omega)]
  unfold cands
  congr 1
  rw [← List.attach_map_val (l := List.range (L - 1))]
  first | done | rfl | (rw [List.map_map]; rfl)
theorem cands_len (ns : List Int) (L f : Nat) : (cands ns L f).length = L - 1 := by unfold cands; simp
theorem cands_ne (ns : List Int) {L : Nat} (f : Nat) (h : 2 ≤ L) : cands ns L f ≠ [] := by
  intro e
  have := cands_len ns L f
  rw [e] at this
  simp at this
  omega
theorem cands_mem {ns : List Int} {L f : Nat} {x : Cand} (h : x ∈ cands ns L f) : ∃ p, p < L - 1 ∧ x = comb (wsum ns f L) (B ns (p + 1) f) (B ns (L - 1 - p) (f + p + 1)) := by
  unfold cands at h
  obtain ⟨p, hp, e⟩ := List.mem_map.mp h
  exact ⟨p, List.mem_range.mp hp, e.symm⟩
theorem mem_cands {ns : List Int} {L f p : Nat} (h : p < L - 1) : comb (wsum ns f L) (B ns (p + 1) f) (B ns (L - 1 - p) (f + p + 1)) ∈ cands ns L f := by
  unfold cands
  exact List.mem_map.mpr ⟨p, List.mem_range.mpr h, rfl⟩
theorem B_len (ns : List Int) : ∀ (L f : Nat), 1 ≤ L → (B ns L f).ds.length = L := by
  intro L
  induction L using Nat.strongRecOn with
  | _ L ih =>
    intro f h
    by_cases h1 : L ≤ 1
    · rw [B_one ns f h1]
      show 1 = L
      omega
    · rw [B_more ns f (by omega)]
      obtain ⟨p, hp, e⟩ := cands_mem (pick_mem (cands_ne ns (L := L) f (by omega))).1
      rw [e]
      show (((B ns (p + 1) f).ds ++ (B ns (L - 1 - p) (f + p + 1)).ds).map (· + 1)).length = L
      rw [List.length_map, List.length_append, ih (p + 1) (by omega) f (by omega), ih (L - 1 - p) (by omega) _ (by omega)]
      omega
/-! ### as data -/
def encT : Tr → PyData
  | .lf i => .int i
  | .nd l r => .tuple [encT l, encT r]
def encC (x : Cand) : PyData := .tuple [.int x.c, .tuple (x.ds.map .int), encT x.t]
def encK (k : Key2) : PyData := .tuple [.int k.1, .tuple (k.2.map .int)]
abbrev encH (ns : List Int) : PyData := .tuple (ns.map .int)
theorem shK (k : Key2) : SeqAt.shaped (encK k) = true := by
  apply shaped_of
  · simp only [encK, PyData.canLay0, PyData.canLayAll0, layInts, Bool.and_self]
  · simp only [encK, PyData.depth, PyData.depthAll, depInts]
    omega
theorem cmpK (a b : Key2) : cmpD (encK a) (encK b) = true := by
  simp only [encK, cmpD, cmpDs, PyData.eqv, eqvInts, cmpInts]
  split
  · split <;> rfl
  · rfl
theorem ltKD (a b : Key2) : ltD (encK a) (encK b) = ltK a b := by
  unfold ltK
  simp only [encK, ltD, ltDs, PyData.eqv, eqvInts, ltInts]
  by_cases h : a.1 = b.1
  · rw [if_pos h, if_pos (by rw [h]; exact beq_self_eq_true _)]
    by_cases h2 : a.2 = b.2
    · rw [if_pos (decide_eq_true h2), h2, lex_irr]
    · rw [if_neg (by rw [decide_eq_false h2]; exact Bool.false_ne_true)]
  · rw [if_neg h, if_neg (by rw [show (a.1 == b.1) = false from beq_eq_false_iff_ne.mpr h]; exact Bool.false_ne_true)]
theorem eqvK (a b : Key2) : PyData.eqv (encK a) (encK b) = decide (a = b) := by
  simp only [encK, PyData.eqv, PyData.eqvAll, eqvInts, Bool.and_true]
  by_cases h : a.1 = b.1
  · by_cases h2 : a.2 = b.2
    · rw [show a = b from Prod.ext h h2]
      simp
    · rw [decide_eq_false h2, Bool.and_false, decide_eq_false (fun z => h2 (by rw [z]))]
  · rw [show (a.1 == b.1) = false from beq_eq_false_iff_ne.mpr h, Bool.false_and, decide_eq_false (fun z => h (by rw [z]))]
/-- the least of the keys, as the program takes it -/
theorem leastD_keys (cs : List Cand) (h : cs ≠ []) : leastD (cs.map fun x => encK (keyC x)) = encK (leastK cs) := by
  have hl : 0 < cs.length := List.length_pos_iff.mpr h
  have e : bestAt (cs.map fun x => encK (keyC x)) (cs.length - 1) = leastIx cs := by
    unfold bestAt leastIx
    have aux : ∀ n, n < cs.length → argBest (fun i j => ltD ((cs.map fun x => encK (keyC x)).getD i .none) ((cs.map fun x => encK (keyC x)).getD j .none)) n = argBest (fun i j => ltK (keyC (cs.getD i dfl)) (keyC (cs.getD j dfl))) n := by
      intro n
      induction n with
      | zero => intro _; rfl
      | succ n ih =>
        intro hn
        have i1 := ih (by omega)
        have b1 := argBest_lt' n fun i j => ltK (keyC (cs.getD i dfl)) (keyC (cs.getD j dfl))
        have at_ : ∀ i, i < cs.length → (cs.map fun x => encK (keyC x)).getD i .none = encK (keyC (cs.getD i dfl)) := fun i hi => by
          rw [List.getD_eq_getElem?_getD, List.getD_eq_getElem?_getD, List.getElem?_map, List.getElem?_eq_getElem hi]
          rfl
        unfold argBest
        rw [i1, at_ _ hn, at_ _ (by omega), ltKD]
    exact aux _ (by omega)
  unfold leastD
  rw [List.length_map, e]
  rw [List.getD_eq_getElem?_getD, List.getElem?_map, List.getElem?_eq_getElem (leastIx_lt h)]
  unfold leastK
  rw [List.getD_eq_getElem?_getD, List.getElem?_eq_getElem (leastIx_lt h)]
  rfl
end J
namespace J
open PySem L2
/-- what the program hands back: the row of each first heap -/
def rowL (ns : List Int) (m f : Nat) : List PyData := (List.range (min m (ns.length - f))).map fun i => encC (B ns (i + 1) f)
def tabD (ns : List Int) : PyData := .list ((List.range ns.length).map fun f => .list (rowL ns ns.length f))
end J
/-! J10: cuts by whole numbers; rows that are handed back. -/
namespace J
open PySem PySem.Spec PyProof.Rows L2
theorem sIx_nat {n d i : Nat} (h : i ≤ n) : HT.sIx n d (some (i : Int)) = i := by
  simp only [HT.sIx]
  try (split <;> omega)
theorem cut_nat {α : Type} {xs : List α} {i j : Nat} (h1 : i ≤ j) (h2 : j ≤ xs.length) : cutL xs (some (i : Int)) (some (j : Int)) = (xs.drop i).take (j - i) := by
  unfold cutL
  rw [sIx_nat (Nat.le_trans h1 h2), sIx_nat h2]
theorem cut_from {α : Type} {xs : List α} {i : Nat} (h : i ≤ xs.length) : cutL xs (some (i : Int)) none = xs.drop i := by
  unfold cutL
  rw [sIx_nat h]
  show (xs.drop i).take (xs.length - i) = _
  exact List.take_of_length_le (by rw [List.length_drop]; exact Nat.le_refl _)
theorem cut_upto {α : Type} {xs : List α} {i : Nat} (h : i ≤ xs.length) : cutL xs none (some (i : Int)) = xs.take i := by
  unfold cutL
  rw [sIx_nat h]
  rfl
theorem atI_nat {α : Type} {xs : List α} {i : Nat} {y : α} (h : xs[i]? = some y) : atI xs (i : Int) = some y := by
  have hi := (List.getElem?_eq_some_iff.mp h).1
  have e : ixN xs.length (i : Int) = some i := by
    unfold ixN
    rw [if_pos (by omega), if_pos (by omega)]
    rfl
  unfold atI
  rw [e]
  exact h
theorem atI_at {α : Type} {xs : List α} {i : Nat} {z : Int} {y : α} (e : z = (i : Int)) (h : xs[i]? = some y) : atI xs z = some y := by rw [e]; exact atI_nat h
theorem mkC_fst : ∀ (qs : List Addr) (rows : List (List SD)), qs.length = rows.length → (mkC qs rows).map (·.1) = qs
  | [], [], _ => rfl
  | [], _ :: _, h => by simp at h
  | _ :: _, [], h => by simp at h
  | q :: qs, r :: rows, h => by
    show q :: (mkC qs rows).map (·.1) = q :: qs
    rw [mkC_fst qs rows (by simpa using h)]
theorem mkC_mem {qs : List Addr} {rows : List (List SD)} {i : Nat} {q : Addr} {r : List SD} (h1 : qs[i]? = some q) (h2 : rows[i]? = some r) : (q, Cell.lst r) ∈ mkC qs rows := List.mem_of_getElem? (mkC_get h1 h2)
theorem refs_at {S : Av} {H : Hp} : ∀ {qs : List Addr} {vs : List V}, SVs S H vs (qs.map .mt) → vs = qs.map V.ref
  | [], _, h => by cases h; rfl
  | q :: qs, _, h => by
    cases h with
    | cons a b => rw [show _ = V.ref q from a, refs_at b]; rfl
theorem rows_da {S S' : Av} {H : Hp} (less : ∀ a, S' a → S a) : ∀ (qs : List Addr) (rows : List (List PyData)), qs.length = rows.length → (∀ p ∈ mkC qs (rows.map (·.map .im)), CellOk S H p.1 p.2) → (∀ q ∈ qs, ¬ S' q) → DaAll S' H (qs.map V.ref) (rows.map .list)
  | [], [], _, _, _ => .nil
  | [], _ :: _, h, _, _ => by simp at h
  | _ :: _, [], h, _, _ => by simp at h
  | q :: qs, r :: rows, h, hc, hn => by
    obtain ⟨ws, e, p⟩ := hc (q, .lst (r.map .im)) List.mem_cons_self
    exact .cons (Da.lst e (hn q List.mem_cons_self) (ims_da (SVs.less p less))) (rows_da less qs rows (by simpa using h) (fun p hp => hc p (List.mem_cons_of_mem _ hp)) fun q hq => hn q (List.mem_cons_of_mem _ hq))
variable {g : G} {D : Ends} {ρ : Ren}
/-- a list of lists that changed is handed back: a datum from here on -/
theorem go_retRows {R : SD → Store → Prop} {i : Nat} {p : Addr} {qs : List Addr} {rows : List (List PyData)} {rest : Store} (hR : Ret g R D.rt) (hi : ρ[i]? = some (some (.mt p))) (hl : qs.length = rows.length) (hM : ∀ a, g.M a → dm rest a)
    (hk : R (.im (.list (rows.map .list))) rest) : Go g (tRet (tVar i)) D ρ ((p, .lst (qs.map .mt)) :: (mkC qs (rows.map (·.map .im)) ++ rest)) := fun σ H ⟨S, c, st, e, gg, l⟩ => by
  obtain ⟨v, hv, sv⟩ := e.at_ i _ hi
  have sv' : v = .ref p := sv
  have nd := c.nd
  rw [List.map_cons, List.map_append, mkC_fst _ _ (by rw [List.length_map]; exact hl)] at nd
  have nd1 := List.nodup_cons.mp nd
  have nd2 := List.nodup_append.mp nd1.2
  let B : Av := fun a => a = p ∨ a ∈ qs
  have inB : ∀ a, B a → dm ((p, Cell.lst (qs.map .mt)) :: (mkC qs (rows.map (·.map .im)) ++ rest)) a := fun a h => by
    unfold dm
    rw [List.map_cons, List.map_append, mkC_fst _ _ (by rw [List.length_map]; exact hl)]
    rcases h with h | h
    · rw [h]; exact List.mem_cons_self
    · exact List.mem_cons_of_mem _ (List.mem_append_left _ h)
  have out : ∀ a, dm rest a → ¬ B a := fun a h z => by
    rcases z with z | z
    · exact nd1.1 (List.mem_append_right _ (by rw [← z]; exact h))
    · exact nd2.2.2 a z a h rfl
  have h0 : ∀ a, B a → g.H a = none := fun a h => by
    rcases st.growM a (inB a h) with z | z
    · exact absurd h (out a (hM a z))
    · exact z
  have less : ∀ a, (S a ∧ ¬ B a) → S a := fun a h => h.1
  have sl : rest.Sublist ((p, Cell.lst (qs.map .mt)) :: (mkC qs (rows.map (·.map .im)) ++ rest)) := (List.sublist_append_right _ _).cons _
  have cd := c.drop sl
  obtain ⟨vs, ev, pv⟩ := c.cells _ List.mem_cons_self
  rw [refs_at pv] at ev
  refine ⟨v, hv, hR _ rest v (fun a => S a ∧ ¬ B a) H hk ⟨fun q hq => (cd.cells q hq).less less, fun q hq => ⟨cd.dom q hq, out _ (List.mem_map.mpr ⟨q, hq, rfl⟩)⟩, cd.nd, fun a h => c.live a h.1⟩
    ⟨st.le, st.keep, fun a h => st.grow a h.1, fun a h => st.growM a ((sl.map (·.1)).mem h), fun a h => ⟨st.sub a h, fun z => l a h (h0 a z)⟩⟩ ?_⟩
  show Da _ H v (.list (rows.map .list))
  rw [sv']
  exact Da.lst ev (fun z => z.2 (.inl rfl)) (rows_da less qs rows hl (fun q hq => c.cells q (List.mem_cons_of_mem _ (List.mem_append_left _ hq))) fun q hq z => z.2 (.inr hq))
section
variable {μ : Store} {te : TE} {tt : TT} {k : SD → Store → Prop} {wi : TI} {tg : TG} {K : PySem.W.Frag}
/-- [e for .. in data] -/
theorem ev_mapN {vs : List Nat} {α : Type} (enc : α → SD) (f : α → PyData) (ds : List α) {Gd : Store → Prop} (hi : ∀ ki : List SD → (Store → Prop) → Store → Prop, ki (ds.map enc) Gd μ → Iv wi ρ μ ki) (gd : Gd μ) (hl : ds.length < sizeLine)
    (turn : ∀ d ∈ ds, Tg tg (enc d) (wipeR ρ vs) μ vs fun ρ2 μ2 => Ev te ρ2 μ2 (Is (f d) μ)) (q : NewL k μ ((ds.map f).map .im)) : Ev (tLc wi tg tYes te vs) ρ μ k := by
  refine ev_map (hi _ ⟨fun i => (ds[i]?.map f).getD .none, gd, by rw [List.length_map]; exact hl, fun i x hx => ?_, ?_⟩)
  · rw [List.getElem?_map] at hx
    cases e : ds[i]? with
    | none => rw [e] at hx; cases hx
    | some d =>
      rw [e] at hx
      cases hx
      have ed : (ds[i]?.map f).getD .none = f d := by rw [e]; rfl
      show Tg tg (enc d) (wipeR ρ vs) μ vs fun ρ2 μ2 => Ev te ρ2 μ2 fun y μ4 => y = SD.im ((ds[i]?.map f).getD .none) ∧ μ4 = μ
      rw [ed]
      exact turn d (List.mem_of_getElem? e)
  · have e : ((List.range (ds.map enc).length).map fun i => SD.im ((ds[i]?.map f).getD .none)) = (ds.map f).map .im := by
      rw [List.length_map, List.map_map]
      apply List.ext_getElem?
      intro i
      rw [List.getElem?_map, List.getElem?_map]
      by_cases hi : i < ds.length
      · rw [List.getElem?_range hi, List.getElem?_eq_getElem hi]
        show some (SD.im ((ds[i]?.map f).getD .none)) = some (SD.im (f ds[i]))
        rw [List.getElem?_eq_getElem hi]
        rfl
      · rw [List.getElem?_eq_none (by rw [List.length_range]; omega), List.getElem?_eq_none (by omega)]
        rfl
    rw [e]
    exact q
theorem ev_mapX {vs : List Nat} {α : Type} (enc : α → SD) (f : α → PyData) (ds : List α) {Gd : Store → Prop} (hi : ∀ ki : List SD → (Store → Prop) → Store → Prop, ki (ds.map enc) Gd μ → Iv wi ρ μ ki) (gd : Gd μ) (hl : ds.length < sizeLine)
    (turn : ∀ d ∈ ds, Tg tg (enc d) (wipeR ρ vs) μ vs fun ρ2 μ2 => Ev te ρ2 μ2 (Is (f d) μ)) (q : k (.im (.list (ds.map f))) μ) : Ev (tLc wi tg tYes te vs) ρ μ k := ev_mapN enc f ds hi gd hl turn (.d q)
/-- [x for x in data if ..] -/
theorem ev_filterX {vs : List Nat} {α : Type} (enc : α → SD) (b : α → Bool) (f : α → PyData) (ds : List α) {Gd : Store → Prop} (hi : ∀ ki : List SD → (Store → Prop) → Store → Prop, ki (ds.map enc) Gd μ → Iv wi ρ μ ki) (gd : Gd μ) (hl : ds.length < sizeLine)
    (turn : ∀ d ∈ ds, Tg tg (enc d) (wipeR ρ vs) μ vs fun ρ2 μ2 => EvT tt ρ2 μ2 fun c μ3 => c = b d ∧ (c = true → Ev te ρ2 μ3 (Is (f d) μ)) ∧ μ3 = μ) (q : k (.im (.list ((ds.filter b).map f))) μ) : Ev (tLc wi tg tt te vs) ρ μ k := by
  refine ev_lc (hi _ ⟨fun i acc μ' => μ' = μ ∧ i ≤ ds.length ∧ acc = (((ds.take i).filter b).map f).map .im, ⟨rfl, Nat.zero_le _, rfl⟩, fun i x acc μ' hx ⟨e1, hle, ea⟩ => ?_, fun acc μ' ⟨e1, hle, ea⟩ => ?_⟩)
  · subst e1 ea
    have hi := (List.getElem?_eq_some_iff.mp hx).1
    rw [List.length_map] at hi
    have e : ds[i]? = some ds[i] := List.getElem?_eq_getElem hi
    rw [List.getElem?_map, e] at hx
    cases hx
    refine ⟨gd, ?_, ?_⟩
    · rw [List.length_map, List.length_map]
      have h1 := List.length_filter_le b (ds.take i)
      rw [List.length_take] at h1
      omega
    · intro S σ H v c e' sv Q p
      refine turn ds[i] (List.getElem_mem hi) S σ H v c e' sv Q fun ρ2 μ3 S2 H2 σ2 hk => p ρ2 μ3 S2 H2 σ2 ?_
      intro S3 σ3 H3 c3 e3 Q3 p3
      refine hk S3 σ3 H3 c3 e3 Q3 fun r μ4 S4 H4 ⟨h1, h2, h3⟩ => p3 r μ4 S4 H4 ⟨fun hr => (h2 hr).mono fun y μ5 ⟨ey, em⟩ => ⟨em, hi, ?_⟩, fun hr => ⟨h3, hi, ?_⟩⟩
      · rw [ey, List.take_add_one, e, List.filter_append, List.map_append, List.map_append]
        have : b ds[i] = true := by rw [← h1]; exact hr
        show _ = _ ++ ((([ds[i]] : List α).filter b).map f).map SD.im
        rw [List.filter_cons_of_pos this]
        rfl
      · rw [List.take_add_one, e, List.filter_append, List.map_append, List.map_append]
        have : ¬ b ds[i] = true := by rw [← h1, hr]; exact Bool.false_ne_true
        show _ = _ ++ ((([ds[i]] : List α).filter b).map f).map SD.im
        rw [List.filter_cons_of_neg this]
        exact (List.append_nil _).symm
  · subst e1 ea
    rw [List.length_map, List.take_length]
    exact ⟨gd, .d q⟩
abbrev cellsOf (qs : List Addr) (rows : List (List PyData)) : Store := mkC qs (rows.map (·.map .im))
theorem cells_snoc {qs : List Addr} {rows : List (List PyData)} {q : Addr} {r : List PyData} (h : qs.length = rows.length) : cellsOf (qs ++ [q]) (rows ++ [r]) = cellsOf qs rows ++ [(q, .lst (r.map .im))] := by
  unfold cellsOf
  rw [List.map_append, List.map_cons, List.map_nil, mkC_snoc _ _ _ _ (by rw [List.length_map]; exact h)]
theorem cells_set {qs : List Addr} {rows : List (List PyData)} {q : Addr} {r : List PyData} {i : Nat} (h : qs[i]? = some q) : (cellsOf qs rows).set i (q, .lst (r.map .im)) = cellsOf qs (rows.set i r) := by
  unfold cellsOf
  rw [mkC_set _ _ _ _ _ h, List.map_set]
theorem cells_get {qs : List Addr} {rows : List (List PyData)} {q : Addr} {r : List PyData} {i : Nat} (h : qs[i]? = some q) (h2 : rows[i]? = some r) : (cellsOf qs rows)[i]? = some (q, .lst (r.map .im)) := by
  unfold cellsOf
  exact mkC_get h (by rw [List.getElem?_map, h2]; rfl)
end
theorem imInts (ns : List Int) : (ns.map PyData.int).map SD.im = ns.map fun n => .im (.int n) := List.map_map
theorem imInts2 (ns ms : List Int) : ((ns.map PyData.int) ++ (ms.map PyData.int)).map SD.im = (ns ++ ms).map fun n => .im (.int n) := by rw [← List.map_append, imInts]
/-- what is left over is forgotten -/
theorem Ret.drop {R : SD → Store → Prop} {Q : VK} (hR : Ret g R Q) : Ret g (fun r μ => ∃ μ' : Store, μ'.Sublist μ ∧ R r μ') Q := fun r μ v S H ⟨μ', s, h⟩ c st sv =>
  hR r μ' v S H h (c.drop s) ⟨st.le, st.keep, st.grow, fun a h => st.growM a ((s.map (·.1)).mem h), st.sub⟩ sv
section
variable {μ : Store} {k : SD → Store → Prop} {ta tb tc td : TE}
/-- the second cell alone may change -/
theorem ev_call2 {Pre : List SD → Store → (SD → Store → Prop) → Prop} {E : XK} {ta : TA} (h : EvA ta ρ μ fun as μ1 => ∃ c0 c rest, μ1 = c0 :: c :: rest ∧ Pre as [c] fun r μ' => k r (c0 :: (μ' ++ rest))) : Ev (tCall (SpR Pre) [] E ta) ρ μ k := fun S σ H c e Q p =>
  h S σ H c e _ fun as μ1 vs S1 H1 ⟨c0, cc, rest, e1, hk⟩ c1 s1 sv => by
    show SpR Pre (vs ++ []) H1 Q E
    rw [List.append_nil]
    subst e1
    have hp : (c0 :: cc :: rest).Perm ([cc] ++ (c0 :: rest)) := List.Perm.swap _ _ _
    have c2 := c1.perm hp.symm
    refine ⟨S1, [cc], as, _, sv, c2.drop (List.sublist_append_left _ _), hk, fun r μ' v S' H' hr c' s' sv' => ?_⟩
    obtain ⟨cf, sf⟩ := c2.frame c' s'
    have s0 : Step S1 (dm (c0 :: cc :: rest)) H1 S1 (dm ([cc] ++ (c0 :: rest))) H1 := ⟨c1.le, fun _ _ e _ => e, fun _ h => .inl h, fun a h => .inl ((dm_perm hp a).mpr h), fun _ h => h⟩
    have hq : (c0 :: (μ' ++ rest)).Perm (μ' ++ c0 :: rest) := List.perm_middle.symm
    have sz := s1.trans (s0.trans sf)
    exact p r _ v S' H' hr (cf.perm hq) ⟨sz.le, sz.keep, sz.grow, fun a h => sz.growM a ((dm_perm hq a).mp h), sz.sub⟩ sv'
theorem ev_lst4 (h : Ev ta ρ μ fun x μ1 => Ev tb ρ μ1 fun y μ2 => Ev tc ρ μ2 fun z μ3 => Ev td ρ μ3 fun u μ4 => ∃ d e f j, x = .im d ∧ y = .im e ∧ z = .im f ∧ u = .im j ∧ k (.im (.list [d, e, f, j])) μ4) : Ev (tLst (tCons ta (tCons tb (tCons tc (tCons td tNil))))) ρ μ k :=
  ev_lst (eva_cons (h.mono fun x μ1 h => eva_cons (h.mono fun y μ2 h => eva_cons (h.mono fun z μ3 h => eva_cons (h.mono fun u μ4 ⟨d, e, f, j, ex, ey, ez, eu, q⟩ => eva_nil ⟨[d, e, f, j], by rw [ex, ey, ez, eu]; rfl, by show 4 ≤ sizeLine; decide, q⟩)))))
end
theorem ixN_nat {n i : Nat} (h : i < n) : ixN n (i : Int) = some i := by
  unfold ixN
  rw [if_pos (by omega), if_pos (by omega)]
  rfl
/-- a place of a list of ints, from either end -/
theorem atI_any {ns : List Int} {z : Int} (h1 : -(ns.length : Int) ≤ z) (h2 : z < ns.length) : ∃ y ∈ ns, atI (numS ns) z = some (.im (.int y)) := by
  have hn : (numS ns).length = ns.length := by unfold numS; simp
  obtain ⟨j, hj, e⟩ : ∃ j, j < ns.length ∧ ixN (numS ns).length z = some j := by
    unfold ixN
    rw [hn]
    by_cases hz : 0 ≤ z
    · exact ⟨z.toNat, by omega, by rw [if_pos hz, if_pos h2]⟩
    · exact ⟨(z + ns.length).toNat, by omega, by rw [if_neg hz, if_pos h1]⟩
  refine ⟨ns[j], List.getElem_mem hj, ?_⟩
  unfold atI
  rw [e]
  show (numS ns)[j]? = _
  unfold numS
  rw [List.getElem?_map, List.getElem?_eq_getElem hj]
  rfl
end J
/-! M2: costs of trees over rings, in plain Lean; least of ints; places. -/
namespace J
open PySem PySem.Spec PyProof.Rows L2
theorem atI_last {α : Type} {xs : List α} {y : α} (h : xs[xs.length - 1]? = some y) : atI xs (-1) = some y := by
  have hi := (List.getElem?_eq_some_iff.mp h).1
  have e : ixN xs.length (-1) = some (xs.length - 1) := by
    unfold ixN
    rw [if_neg (by omega), if_pos (by omega)]
    congr 1
    omega
  unfold atI
  rw [e]
  exact h
theorem atI_back {α : Type} {xs : List α} {j : Nat} {z : Int} {y : α} (hz : z < 0) (e : z + xs.length = (j : Int)) (h : xs[j]? = some y) : atI xs z = some y := by
  have e : ixN xs.length z = some j := by
    unfold ixN
    rw [if_neg (by omega), if_pos (by omega)]
    congr 1
    omega
  unfold atI
  rw [e]
  exact h
/-- the first place of x -/
theorem first_at {x : Int} : ∀ {ns : List Int}, x ∈ ns → ∃ j : Nat, ns[j]? = some x ∧ ∀ (m : Nat) (z : Int), m < j → ns[m]? = some z → z ≠ x
  | [], h => by cases h
  | y :: ns, h => by
    by_cases e : y = x
    · exact ⟨0, by rw [e]; rfl, fun m z hm => by omega⟩
    · have h2 : x ∈ ns := (List.mem_cons.mp h).resolve_left fun z => e z.symm
      obtain ⟨j, h1, h2⟩ := first_at h2
      refine ⟨j + 1, h1, fun m z hm hz => ?_⟩
      cases m with
      | zero => cases hz; exact e
      | succ m => exact h2 m z (by omega) hz
theorem leastI {ns : List Int} (h : ns ≠ []) : ∃ m, leastD (ns.map .int) = .int m ∧ m ∈ ns ∧ ∀ y ∈ ns, m ≤ y := by
  have hl : 0 < ns.length := List.length_pos_iff.mpr h
  let f : Nat → Int := fun i => ns.getD i 0
  have key := argBest_least (fun a b : Int => decide (a < b)) (fun a : Int => decide_eq_false (by omega)) (fun (a b c : Int) h1 h2 => by have := of_decide_eq_true h1; have := of_decide_eq_true h2; exact decide_eq_true (by omega)) f (ns.length - 1)
  have bd : argBest (fun i j => decide (f i < f j)) (ns.length - 1) < ns.length := by
    have := argBest_lt' (ns.length - 1) fun i j => decide (f i < f j)
    omega
  have e : bestAt (ns.map .int) (ns.length - 1) = argBest (fun i j => decide (f i < f j)) (ns.length - 1) := by
    unfold bestAt
    have aux : ∀ n, n < ns.length → argBest (fun i j => ltD ((ns.map PyData.int).getD i .none) ((ns.map PyData.int).getD j .none)) n = argBest (fun i j => decide (f i < f j)) n := by
      intro n
      induction n with
      | zero => intro _; rfl
      | succ n ih =>
        intro hn
        have i1 := ih (by omega)
        have b1 := argBest_lt' n fun i j => decide (f i < f j)
        have at_ : ∀ i, i < ns.length → (ns.map PyData.int).getD i .none = .int (f i) := fun i hi => by
          show _ = PyData.int (ns.getD i 0)
          rw [List.getD_eq_getElem?_getD, List.getD_eq_getElem?_getD, List.getElem?_map, List.getElem?_eq_getElem hi]
          rfl
        unfold argBest
        rw [i1, at_ _ hn, at_ _ (by omega)]
        rfl
    exact aux _ (by omega)
  refine ⟨f (argBest (fun i j => decide (f i < f j)) (ns.length - 1)), ?_, getD_mem' bd, fun y hy => ?_⟩
  · unfold leastD
    rw [List.length_map, e, List.getD_eq_getElem?_getD, List.getElem?_map, List.getElem?_eq_getElem bd]
    show PyData.int _ = PyData.int (ns.getD _ 0)
    rw [List.getD_eq_getElem?_getD, List.getElem?_eq_getElem bd]
    rfl
  · obtain ⟨j, hj, ej⟩ := List.mem_iff_getElem.mp hy
    have := of_decide_eq_false (key j (by omega))
    have ef : f j = y := by
      show ns.getD j 0 = y
      rw [List.getD_eq_getElem?_getD, List.getElem?_eq_getElem hj]
      exact ej
    omega
theorem shI (n : Int) : SeqAt.shaped (.int n) = true := shaped_of rfl (by simp only [PyData.depth]; omega)
theorem rc_minI {K : PySem.W.Frag} {μ : Store} {k : SD → Store → Prop} {ns : List Int} (h0 : ns ≠ []) (q : ∀ m, m ∈ ns → (∀ y ∈ ns, m ≤ y) → k (.im (.int m)) μ) : Rc (rMinJ K) [.im (.list (ns.map .int))] μ k := by
  refine rc_minD (by rw [List.length_map]; exact List.length_pos_iff.mpr h0) (fun d hd => ?_) (fun d hd e he => ?_) ?_
  · obtain ⟨n, _, rfl⟩ := List.mem_map.mp hd
    exact shI n
  · obtain ⟨n, _, rfl⟩ := List.mem_map.mp hd
    obtain ⟨m, _, rfl⟩ := List.mem_map.mp he
    rfl
  · obtain ⟨m, e, h1, h2⟩ := leastI h0
    rw [e]
    exact q m h1 h2
/-! ### rings -/
def C (ns : List Int) : Int := (B ns ns.length 0).c
def rot (ns : List Int) (i : Nat) : List Int := ns.drop i ++ ns.take i
theorem rot_len (ns : List Int) (i : Nat) : (rot ns i).length = ns.length := by
  unfold rot
  rw [List.length_append, List.length_drop, List.length_take]
  omega
structure RingIs (ns : List Int) (c : Int) (p : Nat) : Prop where
  lt : p < ns.length
  at_ : C (rot ns p) = c
  le : ∀ i, i < ns.length → c ≤ C (rot ns i)
  first : ∀ i, i < p → C (rot ns i) ≠ c
end J
namespace J
open PySem PySem.Spec PyProof.Rows L2
def ringCs (ns : List Int) : List Int := (List.range ns.length).map fun i => C (rot ns i)
theorem ringCs_get {ns : List Int} {i : Nat} (h : i < ns.length) : (ringCs ns)[i]? = some (C (rot ns i)) := by
  unfold ringCs
  rw [List.getElem?_map, List.getElem?_range h]
  rfl
theorem ringCs_len (ns : List Int) : (ringCs ns).length = ns.length := by unfold ringCs; simp
theorem ring_of {ns : List Int} {m : Int} {j : Nat} (h1 : (ringCs ns)[j]? = some m) (h2 : ∀ (i : Nat) (z : Int), i < j → (ringCs ns)[i]? = some z → z ≠ m) (h3 : ∀ y ∈ ringCs ns, m ≤ y) : RingIs ns m j := by
  have hj : j < ns.length := by
    have := (List.getElem?_eq_some_iff.mp h1).1
    rwa [ringCs_len] at this
  refine ⟨hj, ?_, fun i hi => h3 _ (List.mem_of_getElem? (ringCs_get hi)), fun i hi => h2 i _ hi (ringCs_get (by omega))⟩
  rw [ringCs_get hj] at h1
  exact Option.some.inj h1
/-! ### depths: the least total of any code -/
def wd (ps : List (Int × Nat)) : Int := (ps.map fun p => p.1 * (p.2 : Int)).sum
/-- the depths fill a tree -/
def Kraft (ds : List Nat) : Prop := ∃ M, (∀ d ∈ ds, d ≤ M) ∧ (ds.map fun d => 2 ^ (M - d)).sum = 2 ^ M
def Low (L : List Int) (v : Int) : Prop := ∀ ps : List (Int × Nat), (ps.map (·.1)).Perm L → Kraft (ps.map (·.2)) → v ≤ wd ps
end J
namespace J
open PySem PySem.Spec PyProof.Rows L2
theorem low_perm {L L' : List Int} {v : Int} (h : L.Perm L') (l : Low L v) : Low L' v := fun ps hp hk => l ps (hp.trans h.symm) hk
theorem low_one (x : Int) : Low [x] 0 := fun ps hp hk => by
  have hl := hp.length_eq
  rw [List.length_map] at hl
  obtain ⟨⟨w, d⟩, rfl⟩ := List.length_eq_one_iff.mp hl
  obtain ⟨M, h1, h2⟩ := hk
  have hd : d ≤ M := h1 d List.mem_cons_self
  have e : 2 ^ (M - d) = 2 ^ M := by simpa using h2
  have e2 : M - d = M := (Nat.pow_right_inj (by decide : 1 < 2)).mp e
  show (0 : Int) ≤ ((w * (d : Int)) :: []).sum
  by_cases hz : d = 0
  · subst hz
    simp
  · omega
theorem kraft_perm {a b : List Nat} (h : a.Perm b) (k : Kraft a) : Kraft b := by
  obtain ⟨M, h1, h2⟩ := k
  exact ⟨M, fun d hd => h1 d (h.mem_iff.mpr hd), by rw [← h2]; exact ((h.map _).sum_nat).symm⟩
theorem kraft_up {D : Nat} {ds : List Nat} (hD : 1 ≤ D) (k : Kraft (D :: D :: ds)) : Kraft ((D - 1) :: ds) := by
  obtain ⟨M, h1, h2⟩ := k
  have hM := h1 D List.mem_cons_self
  refine ⟨M, fun d hd => ?_, ?_⟩
  · rcases List.mem_cons.mp hd with e | hd
    · omega
    · exact h1 d (List.mem_cons_of_mem _ (List.mem_cons_of_mem _ hd))
  · rw [← h2]
    simp only [List.map_cons, List.sum_cons]
    rw [show M - (D - 1) = (M - D) + 1 by omega, Nat.pow_succ]
    omega
theorem max_in : ∀ (ds : List Nat), ds ≠ [] → ∃ D ∈ ds, ∀ d ∈ ds, d ≤ D
  | [], h => absurd rfl h
  | [d], _ => ⟨d, List.mem_cons_self, fun e he => by rw [List.mem_singleton.mp he]; exact Nat.le_refl _⟩
  | d :: e :: r, _ => by
    obtain ⟨D, h1, h2⟩ := max_in (e :: r) (by simp)
    by_cases h : d ≤ D
    · exact ⟨D, List.mem_cons_of_mem _ h1, fun x hx => (List.mem_cons.mp hx).elim (fun z => by rw [z]; exact h) (h2 x)⟩
    · exact ⟨d, List.mem_cons_self, fun x hx => (List.mem_cons.mp hx).elim (fun z => by rw [z]; exact Nat.le_refl _) fun z => Nat.le_trans (h2 x z) (by omega)⟩
theorem sum_scale (D M : Nat) (hDM : D ≤ M) : ∀ ds : List Nat, (∀ d ∈ ds, d ≤ D) → (ds.map fun d => 2 ^ (M - d)).sum = 2 ^ (M - D) * (ds.map fun d => 2 ^ (D - d)).sum
  | [], _ => by simp
  | d :: ds, h => by
    have hd := h d List.mem_cons_self
    simp only [List.map_cons, List.sum_cons]
    rw [sum_scale D M hDM ds fun e he => h e (List.mem_cons_of_mem _ he), Nat.mul_add, ← Nat.pow_add, show M - D + (D - d) = M - d by omega]
theorem sum_even (D : Nat) : ∀ ds : List Nat, (∀ d ∈ ds, d < D) → (ds.map fun d => 2 ^ (D - d)).sum % 2 = 0
  | [], _ => rfl
  | d :: ds, h => by
    have hd := h d List.mem_cons_self
    have ih := sum_even D ds fun e he => h e (List.mem_cons_of_mem _ he)
    simp only [List.map_cons, List.sum_cons]
    have e : 2 ^ (D - d) = 2 ^ (D - d - 1) * 2 := by rw [← Nat.pow_succ]; congr 1; omega
    rw [e]
    omega
theorem sum_zero : ∀ ds : List Nat, (∀ d ∈ ds, d ≤ 0) → (ds.map fun d => 2 ^ (0 - d)).sum = ds.length
  | [], _ => rfl
  | d :: ds, h => by
    simp only [List.map_cons, List.sum_cons, List.length_cons]
    rw [sum_zero ds fun e he => h e (List.mem_cons_of_mem _ he), Nat.zero_sub]
    omega
/-- the two deepest -/
theorem kraft_two {ds : List Nat} (k : Kraft ds) (hl : 2 ≤ ds.length) : ∃ D r, 1 ≤ D ∧ (∀ d ∈ ds, d ≤ D) ∧ ds.Perm (D :: D :: r) := by
  obtain ⟨M, h1, h2⟩ := k
  obtain ⟨D, hD, hm⟩ := max_in ds (fun z => by rw [z] at hl; simp at hl)
  have hDM := h1 D hD
  have e : (ds.map fun d => 2 ^ (D - d)).sum = 2 ^ D := by
    rw [sum_scale D M hDM ds hm, show (2 : Nat) ^ M = 2 ^ (M - D) * 2 ^ D by rw [← Nat.pow_add]; congr 1; omega] at h2
    exact Nat.eq_of_mul_eq_mul_left (Nat.two_pow_pos _) h2
  have h0 : 1 ≤ D := by
    by_cases z : D = 0
    · subst z
      rw [sum_zero ds hm] at e
      omega
    · omega
  have p1 := List.perm_cons_erase hD
  have e2 : 1 + ((ds.erase D).map fun d => 2 ^ (D - d)).sum = 2 ^ D := by
    rw [← e, ((p1.map fun d => 2 ^ (D - d)).sum_nat)]
    simp
  have hin : D ∈ ds.erase D := Classical.byContradiction fun hn => by
    have ev := sum_even D (ds.erase D) fun d hd => by
      have := hm d (List.mem_of_mem_erase hd)
      by_cases z : d = D
      · exact absurd (z ▸ hd : D ∈ ds.erase D) hn
      · omega
    have e3 : (2 : Nat) ^ D = 2 ^ (D - 1) * 2 := by rw [← Nat.pow_succ]; congr 1; omega
    omega
  exact ⟨D, (ds.erase D).erase D, h0, hm, p1.trans ((List.perm_cons_erase hin).cons D)⟩
theorem wd_cons (p : Int × Nat) (ps : List (Int × Nat)) : wd (p :: ps) = p.1 * (p.2 : Int) + wd ps := by
  unfold wd
  rw [List.map_cons, List.sum_cons]
theorem sum_permI {a b : List Int} (h : a.Perm b) : a.sum = b.sum := by
  induction h with
  | nil => rfl
  | cons x _ ih => simp only [List.sum_cons, ih]
  | swap x y l => simp only [List.sum_cons]; omega
  | trans _ _ h1 h2 => exact h1.trans h2
theorem wd_perm {a b : List (Int × Nat)} (h : a.Perm b) : wd a = wd b := sum_permI (h.map _)
/-- the least weight to the deepest place -/
theorem exch {x u : Int} {D : Nat} {qs : List (Int × Nat)} (hD : ∀ q ∈ qs, q.2 ≤ D) (hx : x ∈ u :: qs.map (·.1)) (hu : x ≤ u) :
    ∃ qs1 : List (Int × Nat), (x :: qs1.map (·.1)).Perm (u :: qs.map (·.1)) ∧ (qs1.map (·.2)).Perm (qs.map (·.2)) ∧ x * (D : Int) + wd qs1 ≤ u * (D : Int) + wd qs := by
  rcases List.mem_cons.mp hx with e | hx
  · subst e
    exact ⟨qs, .refl _, .refl _, Int.le_refl _⟩
  · obtain ⟨q, hq, e⟩ := List.mem_map.mp hx
    have p1 := List.perm_cons_erase hq
    have hd := hD q hq
    obtain ⟨x', d⟩ := q
    have e : x' = x := e
    subst e
    refine ⟨(u, d) :: qs.erase (x', d), ?_, ?_, ?_⟩
    · refine (List.Perm.swap _ _ _).trans (.cons _ ?_)
      exact (p1.map (·.1)).symm
    · exact (p1.map (·.2)).symm
    · rw [wd_perm p1, wd_cons, wd_cons]
      have hd : d ≤ D := hd
      have h1 : 0 ≤ (u - x') * ((D : Int) - (d : Int)) := Int.mul_nonneg (by omega) (by omega)
      have h2 : (u - x') * ((D : Int) - (d : Int)) = u * (D : Int) - u * (d : Int) - (x' * (D : Int) - x' * (d : Int)) := by rw [Int.sub_mul, Int.mul_sub, Int.mul_sub]
      show x' * (D : Int) + (u * (d : Int) + wd (qs.erase (x', d))) ≤ u * (D : Int) + (x' * (d : Int) + wd (qs.erase (x', d)))
      omega
theorem take_snd {D : Nat} {ps : List (Int × Nat)} (h : D ∈ ps.map (·.2)) : ∃ u qs, ps.Perm ((u, D) :: qs) := by
  obtain ⟨⟨u, d⟩, hq, e⟩ := List.mem_map.mp h
  have e : d = D := e
  subst e
  exact ⟨u, ps.erase (u, d), List.perm_cons_erase hq⟩
/-- the two least are brothers -/
theorem low_step {x y : Int} {rest : List Int} {v : Int} (hs : (x :: y :: rest).Pairwise (· ≤ ·)) (h : Low ((x + y) :: rest) v) : Low (x :: y :: rest) (x + y + v) := fun ps hp hk => by
  have hlen := hp.length_eq
  rw [List.length_map, List.length_cons, List.length_cons] at hlen
  obtain ⟨D, r, hD, hm, hDD⟩ := kraft_two hk (by rw [List.length_map]; omega)
  obtain ⟨hx1, hs2⟩ := List.pairwise_cons.mp hs
  obtain ⟨hy1, _⟩ := List.pairwise_cons.mp hs2
  have hmp : ∀ q ∈ ps, q.2 ≤ D := fun q hq => hm q.2 (List.mem_map.mpr ⟨q, hq, rfl⟩)
  have hxmin : ∀ z ∈ x :: y :: rest, x ≤ z := fun z hz => (List.mem_cons.mp hz).elim (fun e => by rw [e]; exact Int.le_refl _) (hx1 z)
  have hymin : ∀ z ∈ y :: rest, y ≤ z := fun z hz => (List.mem_cons.mp hz).elim (fun e => by rw [e]; exact Int.le_refl _) (hy1 z)
  -- x to a deepest place
  obtain ⟨u, qs, pq⟩ := take_snd (ps := ps) (D := D) (hDD.mem_iff.mpr List.mem_cons_self)
  have pf : (u :: qs.map (·.1)).Perm (x :: y :: rest) := ((pq.map (fun q : Int × Nat => q.1)).symm.trans hp : _)
  obtain ⟨q1, a1, a2, a3⟩ := exch (x := x) (u := u) (D := D) (qs := qs) (fun q hq => hmp q (pq.mem_iff.mpr (List.mem_cons_of_mem _ hq))) (pf.mem_iff.mpr List.mem_cons_self) (hxmin u (pf.mem_iff.mp List.mem_cons_self))
  have f1 : (q1.map (·.1)).Perm (y :: rest) := (a1.trans pf).cons_inv
  have ds1 : (qs.map (·.2)).Perm (D :: r) := ((pq.map (·.2)).symm.trans hDD).cons_inv
  have d1 : (q1.map (·.2)).Perm (D :: r) := a2.trans ds1
  -- y to the other one
  obtain ⟨u2, q2, pq2⟩ := take_snd (ps := q1) (D := D) (d1.mem_iff.mpr List.mem_cons_self)
  have pf2 : (u2 :: q2.map (·.1)).Perm (y :: rest) := ((pq2.map (fun q : Int × Nat => q.1)).symm.trans f1 : _)
  have hm1 : ∀ q ∈ q1, q.2 ≤ D := fun q hq => by
    have : q.2 ∈ qs.map (·.2) := a2.mem_iff.mp (List.mem_map.mpr ⟨q, hq, rfl⟩)
    obtain ⟨q', hq', e⟩ := List.mem_map.mp this
    rw [← e]
    exact hmp q' (pq.mem_iff.mpr (List.mem_cons_of_mem _ hq'))
  obtain ⟨q3, b1, b2, b3⟩ := exch (x := y) (u := u2) (D := D) (qs := q2) (fun q hq => hm1 q (pq2.mem_iff.mpr (List.mem_cons_of_mem _ hq))) (pf2.mem_iff.mpr List.mem_cons_self) (hymin u2 (pf2.mem_iff.mp List.mem_cons_self))
  have f3 : (q3.map (·.1)).Perm rest := (b1.trans pf2).cons_inv
  have d3 : (q3.map (·.2)).Perm r := b2.trans ((pq2.map (·.2)).symm.trans d1).cons_inv
  have kr : Kraft ((D - 1) :: q3.map (·.2)) := kraft_up hD (kraft_perm (hDD.trans ((d3.symm.cons D).cons D)) hk)
  have key := h ((x + y, D - 1) :: q3) (f3.cons _) kr
  rw [wd_cons] at key
  have w1 := wd_perm pq
  have w2 := wd_perm pq2
  rw [wd_cons] at w1 w2
  have e1 : (x + y) * (((D - 1 : Nat)) : Int) = x * (D : Int) + y * (D : Int) - (x + y) := by
    rw [show ((D - 1 : Nat) : Int) = (D : Int) - 1 by omega, Int.mul_sub, Int.add_mul, Int.mul_one]
  have w1' : wd ps = u * (D : Int) + wd qs := w1
  have w2' : wd q1 = u2 * (D : Int) + wd q2 := w2
  have key' : v ≤ (x + y) * (((D - 1 : Nat)) : Int) + wd q3 := key
  omega
end J
/-! M3: the laws of rings, in plain Lean. -/
namespace J
open PySem PySem.Spec PyProof.Rows L2
/-- a tree over a row, by what it costs -/
inductive TC : List Int → Int → Prop
  | one (x : Int) : TC [x] 0
  | nd {l r : List Int} {a b : Int} : TC l a → TC r b → TC (l ++ r) (a + b + (l ++ r).sum)
theorem TC.ne {ws : List Int} {c : Int} (h : TC ws c) : 1 ≤ ws.length := by
  induction h with
  | one x => exact Nat.le_refl _
  | nd _ _ h1 _ => rw [List.length_append]; omega
def st (ns : List Int) (f L : Nat) : List Int := (ns.drop f).take L
theorem st_len {ns : List Int} {f L : Nat} (h : f + L ≤ ns.length) : (st ns f L).length = L := by
  unfold st
  rw [List.length_take, List.length_drop]
  omega
theorem st_app (ns : List Int) (f a b : Nat) : st ns f a ++ st ns (f + a) b = st ns f (a + b) := by
  unfold st
  rw [← List.drop_drop]
  exact (List.take_add (l := ns.drop f)).symm
theorem B_tc (ns : List Int) : ∀ (L f : Nat), 1 ≤ L → f + L ≤ ns.length → TC (st ns f L) (B ns L f).c := by
  intro L
  induction L using Nat.strongRecOn with
  | _ L ih =>
    intro f h1 h2
    by_cases hL : L ≤ 1
    · rw [B_one ns f hL]
      obtain ⟨x, e⟩ := List.length_eq_one_iff.mp (show (st ns f L).length = 1 by rw [st_len h2]; omega)
      rw [e]
      exact .one x
    · rw [B_more ns f (by omega)]
      obtain ⟨p, hp, e⟩ := cands_mem (pick_mem (cands_ne ns (L := L) f (by omega))).1
      rw [e]
      have t1 := ih (p + 1) (by omega) f (by omega) (by omega)
      have t2 := ih (L - 1 - p) (by omega) (f + p + 1) (by omega) (by omega)
      have ea : st ns f (p + 1) ++ st ns (f + p + 1) (L - 1 - p) = st ns f L := by
        rw [show f + p + 1 = f + (p + 1) by omega, st_app, show p + 1 + (L - 1 - p) = L by omega]
      have t := TC.nd t1 t2
      rw [ea] at t
      exact t
theorem B_le (ns : List Int) {ws : List Int} {c : Int} (h : TC ws c) : ∀ f, f + ws.length ≤ ns.length → ws = st ns f ws.length → (B ns ws.length f).c ≤ c := by
  induction h with
  | one x =>
    intro f _ _
    show (B ns 1 f).c ≤ 0
    rw [B_one ns f (Nat.le_refl _)]
    exact Int.le_refl _
  | @nd l r a b hl hr ih1 ih2 =>
    intro f h1 h2
    have n1 := hl.ne
    have n2 := hr.ne
    rw [List.length_append] at h1 h2 ⊢
    have e := h2
    rw [← st_app] at e
    obtain ⟨e1, e2⟩ := List.append_inj e (by rw [st_len (by omega)])
    have i1 := ih1 f (by omega) e1
    have i2 := ih2 (f + l.length) (by omega) e2
    rw [B_more ns f (by omega)]
    have hm := mem_cands (ns := ns) (L := l.length + r.length) (f := f) (p := l.length - 1) (by omega)
    have le := ltK_le (pick_le hm)
    have eb : comb (wsum ns f (l.length + r.length)) (B ns (l.length - 1 + 1) f) (B ns (l.length + r.length - 1 - (l.length - 1)) (f + (l.length - 1) + 1)) = comb (wsum ns f (l.length + r.length)) (B ns l.length f) (B ns r.length (f + l.length)) := by
      rw [show l.length - 1 + 1 = l.length by omega, show l.length + r.length - 1 - (l.length - 1) = r.length by omega, show f + (l.length - 1) + 1 = f + l.length by omega]
    rw [eb] at le
    have ew : wsum ns f (l.length + r.length) = (l ++ r).sum := by
      rw [h2]
      rfl
    have ec : (keyC (comb (wsum ns f (l.length + r.length)) (B ns l.length f) (B ns r.length (f + l.length)))).1 = (B ns l.length f).c + (B ns r.length (f + l.length)).c + wsum ns f (l.length + r.length) := rfl
    rw [ec, ew] at le
    have ep : (keyC (pick (cands ns (l.length + r.length) f))).1 = (pick (cands ns (l.length + r.length) f)).c := rfl
    rw [ep] at le
    omega
theorem st_all (ns : List Int) : st ns 0 ns.length = ns := by
  unfold st
  rw [List.drop_zero, List.take_length]
theorem C_tc {ns : List Int} (h : 1 ≤ ns.length) : TC ns (C ns) := by
  have := B_tc ns ns.length 0 h (by omega)
  rwa [st_all] at this
theorem C_le {ns : List Int} {c : Int} (h : TC ns c) : C ns ≤ c := B_le ns h 0 (by omega) (st_all ns).symm
/-! ### turning about -/
theorem sum_rev (l : List Int) : l.reverse.sum = l.sum := sum_permI (List.reverse_perm l)
theorem TC.rev {ws : List Int} {c : Int} (h : TC ws c) : TC ws.reverse c := by
  induction h with
  | one x => exact .one x
  | @nd l r a b _ _ h1 h2 =>
    have t := TC.nd h2 h1
    rw [← List.reverse_append, sum_rev, Int.add_comm b a] at t
    exact t
theorem C_rev {ws : List Int} (h : 1 ≤ ws.length) : C ws.reverse = C ws := by
  have h1 := C_le (C_tc h).rev
  have h2 := C_le (C_tc (ns := ws.reverse) (by rw [List.length_reverse]; exact h)).rev
  rw [List.reverse_reverse] at h2
  omega
theorem rot_app (A B : List Int) : rot (A ++ B) A.length = B ++ A := by
  unfold rot
  rw [List.drop_left, List.take_left]
theorem rot_zero (ns : List Int) : rot ns 0 = ns := by
  unfold rot
  simp
theorem rot_all (ns : List Int) : rot ns ns.length = ns := by
  unfold rot
  simp
theorem rot_split {ns : List Int} {i : Nat} (h : i ≤ ns.length) : ∃ A B, ns = A ++ B ∧ A.length = i ∧ rot ns i = B ++ A :=
  ⟨ns.take i, ns.drop i, (List.take_append_drop i ns).symm, by rw [List.length_take]; omega, rfl⟩
/-- every place of a row turned on is a place of the row -/
theorem rot_rot {ns : List Int} {i j : Nat} (hn : 1 ≤ ns.length) (hi : i ≤ ns.length) (hj : j ≤ ns.length) : ∃ k, k < ns.length ∧ rot (rot ns j) i = rot ns k := by
  have fin : ∀ k, k ≤ ns.length → ∃ k', k' < ns.length ∧ rot ns k = rot ns k' := fun k hk => by
    by_cases e : k = ns.length
    · exact ⟨0, by omega, by rw [e, rot_all, rot_zero]⟩
    · exact ⟨k, by omega, rfl⟩
  suffices h : ∃ k, k ≤ ns.length ∧ rot (rot ns j) i = rot ns k by
    obtain ⟨k, h1, h2⟩ := h
    obtain ⟨k', h3, h4⟩ := fin k h1
    exact ⟨k', h3, h2.trans h4⟩
  by_cases h : i + j ≤ ns.length
  · refine ⟨i + j, h, ?_⟩
    unfold rot
    rw [List.drop_append_of_le_length (by rw [List.length_drop]; omega), List.take_append_of_le_length (by rw [List.length_drop]; omega), List.drop_drop, List.append_assoc, Nat.add_comm i j, List.take_add]
  · refine ⟨i + j - ns.length, by omega, ?_⟩
    unfold rot
    have e1 : i - (ns.drop j).length = i + j - ns.length := by rw [List.length_drop]; omega
    rw [List.drop_append, List.take_append, List.drop_of_length_le (by rw [List.length_drop]; omega), List.take_of_length_le (l := ns.drop j) (by rw [List.length_drop]; omega), e1, List.nil_append, List.take_take, Nat.min_eq_left (by omega), ← List.append_assoc]
    congr 1
    have e2 : ns.drop (i + j - ns.length) = (ns.take j ++ ns.drop j).drop (i + j - ns.length) := by rw [List.take_append_drop]
    rw [e2, List.drop_append_of_le_length (by rw [List.length_take]; omega)]
theorem ring_le {ns : List Int} {c : Int} {p k : Nat} (h : RingIs ns c p) (hk : k ≤ ns.length) : c ≤ C (rot ns k) := by
  by_cases e : k = ns.length
  · rw [e, rot_all, ← rot_zero ns]
    exact h.le 0 (Nat.lt_of_le_of_lt (Nat.zero_le _) h.lt)
  · exact h.le k (by omega)
theorem ring_same {ns ms : List Int} {c c' : Int} {p p' : Nat} (h : RingIs ns c p) (h' : RingIs ms c' p') (h1 : ∀ i, i < ns.length → ∃ j, j ≤ ms.length ∧ C (rot ns i) = C (rot ms j)) (h2 : ∀ i, i < ms.length → ∃ j, j ≤ ns.length ∧ C (rot ms i) = C (rot ns j)) : c' = c := by
  obtain ⟨j, j1, j2⟩ := h1 p h.lt
  obtain ⟨i, i1, i2⟩ := h2 p' h'.lt
  have := ring_le h i1
  have := ring_le h' j1
  have := h.at_
  have := h'.at_
  omega
theorem ring_rot {ns : List Int} {c c' : Int} {p p' j : Nat} (h : RingIs ns c p) (hj : j ≤ ns.length) (h' : RingIs (rot ns j) c' p') : c' = c := by
  have hn : 1 ≤ ns.length := Nat.lt_of_le_of_lt (Nat.zero_le _) h.lt
  have hl := rot_len ns j
  refine ring_same h h' (fun i hi => ?_) fun i hi => ?_
  · obtain ⟨A, Bs, e, ea, er⟩ := rot_split hj
    have eb : rot (rot ns j) (ns.length - j) = ns := by
      have el : Bs.length = ns.length - j := by rw [e, List.length_append]; omega
      rw [er, ← el, rot_app]
      exact e.symm
    obtain ⟨k, k1, k2⟩ := rot_rot (ns := rot ns j) (i := i) (j := ns.length - j) (by omega) (by omega) (by omega)
    rw [eb] at k2
    exact ⟨k, by omega, by rw [k2]⟩
  · obtain ⟨k, k1, k2⟩ := rot_rot (ns := ns) (i := i) (j := j) hn (by omega) hj
    exact ⟨k, by omega, by rw [k2]⟩
theorem rot_rev {ns : List Int} {i : Nat} (hi : i ≤ ns.length) : rot ns.reverse i = (rot ns (ns.length - i)).reverse := by
  obtain ⟨A, Bs, e, ea, er⟩ := rot_split (ns := ns) (i := ns.length - i) (by omega)
  have el : Bs.reverse.length = i := by rw [List.length_reverse]; have := congrArg List.length e; rw [List.length_append] at this; omega
  rw [er]
  have e3 : ns.reverse = Bs.reverse ++ A.reverse := by rw [e, List.reverse_append]
  rw [e3, ← el, rot_app, List.reverse_append]
theorem ring_rev {ns : List Int} {c c' : Int} {p p' : Nat} (h : RingIs ns c p) (h' : RingIs ns.reverse c' p') : c' = c := by
  have hn : 1 ≤ ns.length := Nat.lt_of_le_of_lt (Nat.zero_le _) h.lt
  have hl : ns.reverse.length = ns.length := List.length_reverse
  refine ring_same h h' (fun i hi => ⟨ns.length - i, by omega, ?_⟩) fun i hi => ⟨ns.length - i, by omega, ?_⟩
  · rw [rot_rev (by omega), show ns.length - (ns.length - i) = i by omega, C_rev (by rw [rot_len]; exact hn)]
  · rw [rot_rev (by omega), C_rev (by rw [rot_len]; exact hn)]
/-! ### so many times -/
theorem sum_times (t : Int) : ∀ l : List Int, (l.map (· * t)).sum = l.sum * t
  | [] => by simp
  | x :: l => by
    simp only [List.map_cons, List.sum_cons]
    rw [sum_times t l, Int.add_mul]
theorem TC.times (t : Int) {ws : List Int} {c : Int} (h : TC ws c) : TC (ws.map (· * t)) (c * t) := by
  induction h with
  | one x => rw [Int.zero_mul]; exact .one _
  | @nd l r a b _ _ h1 h2 =>
    have q := TC.nd h1 h2
    rw [← List.map_append, sum_times, ← Int.add_mul, ← Int.add_mul] at q
    exact q
theorem TC.untimes (t : Int) {ms : List Int} {c' : Int} (h : TC ms c') : ∀ ws : List Int, ms = ws.map (· * t) → ∃ c, c' = c * t ∧ TC ws c := by
  induction h with
  | one x =>
    intro ws e
    match ws, e with
    | [y], _ => exact ⟨0, by rw [Int.zero_mul], .one y⟩
  | @nd l r a b _ _ h1 h2 =>
    intro ws e
    obtain ⟨l', r', rfl, e1, e2⟩ := List.map_eq_append_iff.mp e.symm
    obtain ⟨x, x1, x2⟩ := h1 l' e1.symm
    obtain ⟨y, y1, y2⟩ := h2 r' e2.symm
    refine ⟨x + y + (l' ++ r').sum, ?_, .nd x2 y2⟩
    rw [x1, y1, ← e1, ← e2, ← List.map_append, sum_times, ← Int.add_mul, ← Int.add_mul]
theorem C_times {t : Int} (ht : 0 < t) {ws : List Int} (h : 1 ≤ ws.length) : C (ws.map (· * t)) = C ws * t := by
  have h1 := C_le ((C_tc h).times t)
  obtain ⟨c, e, q⟩ := (C_tc (ns := ws.map (· * t)) (by rw [List.length_map]; exact h)).untimes t ws rfl
  have h2 := Int.mul_le_mul_of_nonneg_right (C_le q) (Int.le_of_lt ht)
  omega
theorem rot_map (f : Int → Int) (ns : List Int) (i : Nat) : rot (ns.map f) i = (rot ns i).map f := by
  unfold rot
  rw [List.map_append, List.map_drop, List.map_take]
theorem ring_uniq {ns : List Int} {c c' : Int} {p p' : Nat} (h : RingIs ns c p) (h' : RingIs ns c' p') : c' = c ∧ p' = p := by
  have e : c' = c := by
    have := h.le p' h'.lt
    have := h'.le p h.lt
    have := h.at_
    have := h'.at_
    omega
  subst e
  refine ⟨rfl, ?_⟩
  by_cases l : p' < p
  · exact absurd h'.at_ (h.first p' l)
  · by_cases l2 : p < p'
    · exact absurd h.at_ (h'.first p l2)
    · omega
theorem ring_times {ns : List Int} {c c' t : Int} {p p' : Nat} (h : RingIs ns c p) (ht : 0 < t) (h' : RingIs (ns.map (· * t)) c' p') : c' = c * t ∧ p' = p := by
  have hn : 1 ≤ ns.length := Nat.lt_of_le_of_lt (Nat.zero_le _) h.lt
  have ec : ∀ i, C (rot (ns.map (· * t)) i) = C (rot ns i) * t := fun i => by rw [rot_map, C_times ht (by rw [rot_len]; exact hn)]
  refine ring_uniq ⟨by rw [List.length_map]; exact h.lt, by rw [ec, h.at_], fun i hi => ?_, fun i hi => ?_⟩ h'
  · rw [ec]
    rw [List.length_map] at hi
    exact Int.mul_le_mul_of_nonneg_right (h.le i hi) (Int.le_of_lt ht)
  · rw [ec]
    intro z
    exact h.first i hi (Int.eq_of_mul_eq_mul_right (by omega) z)
/-! ### any order -/
theorem sum_shift (M : Nat) (hM : 1 ≤ M) (ds : List Nat) : ((ds.map (· + 1)).map fun d => 2 ^ (M - d)).sum = (ds.map fun d => 2 ^ (M - 1 - d)).sum := by
  rw [List.map_map]
  congr 1
  exact List.map_congr_left fun d _ => by show 2 ^ (M - (d + 1)) = _; congr 1; omega
theorem TC.depths {ws : List Int} {c : Int} (h : TC ws c) : ∃ ps : List (Int × Nat), ps.map (·.1) = ws ∧ wd ps = c ∧ ∃ D, (∀ d ∈ ps.map (·.2), d ≤ D) ∧ ∀ M, D ≤ M → ((ps.map (·.2)).map fun d => 2 ^ (M - d)).sum = 2 ^ M := by
  induction h with
  | one x => exact ⟨[(x, 0)], rfl, by show (x * 0 + 0 : Int) = 0; omega, 0, fun d hd => by rw [List.mem_singleton.mp hd]; exact Nat.le_refl _, fun M _ => by simp⟩
  | @nd l r a b _ _ h1 h2 =>
    obtain ⟨p1, a1, a2, D1, a3, a4⟩ := h1
    obtain ⟨p2, b1, b2, D2, b3, b4⟩ := h2
    have inc : ∀ ps : List (Int × Nat), wd (ps.map fun q => (q.1, q.2 + 1)) = wd ps + (ps.map (·.1)).sum := by
      intro ps
      induction ps with
      | nil => rfl
      | cons q ps ih =>
        rw [List.map_cons, wd_cons, wd_cons, ih, List.map_cons, List.sum_cons]
        show q.1 * ((q.2 + 1 : Nat) : Int) + _ = _
        rw [show ((q.2 + 1 : Nat) : Int) = (q.2 : Int) + 1 by omega, Int.mul_add, Int.mul_one]
        omega
    have app : ∀ x y : List (Int × Nat), wd (x ++ y) = wd x + wd y := by
      intro x y
      unfold wd
      rw [List.map_append, List.sum_append]
    have snd : ((p1 ++ p2).map fun q => (q.1, q.2 + 1)).map (·.2) = (p1.map (·.2) ++ p2.map (·.2)).map (· + 1) := by
      rw [← List.map_append, List.map_map, List.map_map]
      rfl
    refine ⟨(p1 ++ p2).map fun q => (q.1, q.2 + 1), ?_, ?_, max D1 D2 + 1, ?_, ?_⟩
    · rw [List.map_map, show ((fun q : Int × Nat => q.1) ∘ fun q : Int × Nat => (q.1, q.2 + 1)) = fun q => q.1 from rfl, List.map_append, a1, b1]
    · rw [inc, app, a2, b2, List.map_append, a1, b1]
    · rw [snd]
      intro d hd
      obtain ⟨e, he, rfl⟩ := List.mem_map.mp hd
      rcases List.mem_append.mp he with he | he
      · have := a3 e he
        omega
      · have := b3 e he
        omega
    · intro M hM
      rw [snd, sum_shift M (by omega), List.map_append, List.sum_append, a4 (M - 1) (by omega), b4 (M - 1) (by omega)]
      rw [show (2 : Nat) ^ M = 2 ^ (M - 1) * 2 by rw [← Nat.pow_succ]; congr 1; omega]
      omega
theorem low_C {ns ws : List Int} {a : Int} (l : Low ns a) (hp : ws.Perm ns) (h : 1 ≤ ws.length) : a ≤ C ws := by
  obtain ⟨ps, e1, e2, D, e3, e4⟩ := (C_tc h).depths
  rw [← e2]
  exact l ps (by rw [e1]; exact hp) ⟨D, e3, e4 D (Nat.le_refl _)⟩
theorem low_ring {ns : List Int} {c a : Int} {p : Nat} (h : RingIs ns c p) (l : Low ns a) : a ≤ c := by
  rw [← h.at_]
  refine low_C l ?_ (by rw [rot_len]; exact Nat.lt_of_le_of_lt (Nat.zero_le _) h.lt)
  unfold rot
  have := List.perm_append_comm (l₁ := ns.drop p) (l₂ := ns.take p)
  rwa [List.take_append_drop] at this
theorem ring_self {ns : List Int} {c : Int} {p : Nat} (h : RingIs ns c p) : c ≤ C ns := by
  have := h.le 0 (Nat.lt_of_le_of_lt (Nat.zero_le _) h.lt)
  rwa [rot_zero] at this
/-! ### a heap of nothing more -/
theorem TC.nonneg {ws : List Int} {c : Int} (h : TC ws c) : (∀ x ∈ ws, 0 ≤ x) → 0 ≤ c ∧ 0 ≤ ws.sum := by
  induction h with
  | one x => intro h; exact ⟨Int.le_refl _, by have := h x List.mem_cons_self; simpa using this⟩
  | @nd l r a b _ _ h1 h2 =>
    intro h
    obtain ⟨a1, a2⟩ := h1 fun x hx => h x (List.mem_append_left _ hx)
    obtain ⟨b1, b2⟩ := h2 fun x hx => h x (List.mem_append_right _ hx)
    rw [List.sum_append]
    omega
/-- a heap less -/
theorem TC.less {ws : List Int} {c : Int} (h : TC ws c) : ∀ (U V : List Int) (x : Int), ws = U ++ x :: V → (∀ y ∈ ws, 0 ≤ y) → 1 ≤ (U ++ V).length → ∃ c', c' ≤ c ∧ TC (U ++ V) c' := by
  induction h with
  | one y =>
    intro U V x e _ hl
    have := congrArg List.length e
    simp at this hl
    omega
  | @nd l r a b tl tr h1 h2 =>
    intro U V x e hp hl
    have pl : ∀ y ∈ l, 0 ≤ y := fun y hy => hp y (List.mem_append_left _ hy)
    have pr : ∀ y ∈ r, 0 ≤ y := fun y hy => hp y (List.mem_append_right _ hy)
    obtain ⟨na, sa⟩ := tl.nonneg pl
    obtain ⟨nb, sb⟩ := tr.nonneg pr
    have hx : 0 ≤ x := hp x (by rw [e]; exact List.mem_append_right _ List.mem_cons_self)
    rcases List.append_eq_append_iff.mp e with ⟨as, e1, e2⟩ | ⟨bs, e1, e2⟩
    · -- l ++ as = U, r = as ++ x :: V
      by_cases z : 1 ≤ (as ++ V).length
      · obtain ⟨c', k1, k2⟩ := h2 as V x e2 pr z
        have t := TC.nd tl k2
        rw [← List.append_assoc, ← e1] at t
        refine ⟨_, ?_, t⟩
        rw [e1, e2]
        simp only [List.sum_append, List.sum_cons]
        omega
      · have : as = [] ∧ V = [] := by
          constructor
          · cases as with
            | nil => rfl
            | cons _ _ => simp at z
          · cases V with
            | nil => rfl
            | cons _ _ => simp at z
        obtain ⟨rfl, rfl⟩ := this
        rw [List.append_nil] at e1 ⊢
        subst e1
        refine ⟨a, ?_, tl⟩
        rw [List.sum_append]
        omega
    · -- l = U ++ bs, x :: V = bs ++ r
      cases bs with
      | nil =>
        rw [List.append_nil] at e1
        rw [List.nil_append] at e2
        subst e1
        by_cases z : 1 ≤ V.length
        · obtain ⟨c', k1, k2⟩ := h2 [] V x e2.symm pr z
          refine ⟨_, ?_, TC.nd tl k2⟩
          rw [← e2]
          simp only [List.sum_append, List.sum_cons, List.nil_append]
          omega
        · have : V = [] := by
            cases V with
            | nil => rfl
            | cons _ _ => simp at z
          subst this
          rw [List.append_nil]
          refine ⟨a, ?_, tl⟩
          rw [List.sum_append]
          omega
      | cons y bs =>
        rw [List.cons_append] at e2
        obtain ⟨rfl, e3⟩ := List.cons.inj e2
        by_cases z : 1 ≤ (U ++ bs).length
        · obtain ⟨c', k1, k2⟩ := h1 U bs x e1 pl z
          have t := TC.nd k2 tr
          rw [List.append_assoc, ← e3] at t
          refine ⟨_, ?_, t⟩
          rw [e1, e3]
          simp only [List.sum_append, List.sum_cons]
          omega
        · have : U = [] ∧ bs = [] := by
            constructor
            · cases U with
              | nil => rfl
              | cons _ _ => simp at z
            · cases bs with
              | nil => rfl
              | cons _ _ => simp at z
          obtain ⟨rfl, rfl⟩ := this
          rw [List.nil_append] at e3 ⊢
          subst e3
          refine ⟨b, ?_, tr⟩
          rw [List.sum_append]
          omega
/-- one put beside another -/
theorem TC.more {ws : List Int} {c : Int} (h : TC ws c) : ∀ (U V : List Int) (y : Int), ws = U ++ y :: V → TC (U ++ y :: 0 :: V) (c + y) ∧ TC (U ++ 0 :: y :: V) (c + y) := by
  induction h with
  | one x =>
    intro U V y e
    match U, V, e with
    | [], [], e =>
      cases e
      have t1 := TC.nd (TC.one x) (TC.one 0)
      have t2 := TC.nd (TC.one 0) (TC.one x)
      have e1 : (0 + 0 + ([x] ++ [0] : List Int).sum : Int) = 0 + x := by simp
      have e2 : (0 + 0 + ([0] ++ [x] : List Int).sum : Int) = 0 + x := by simp
      rw [e1] at t1
      rw [e2] at t2
      exact ⟨t1, t2⟩
    | [], _ :: _, e => simp at e
    | _ :: _, _, e => simp at e
  | @nd l r a b tl tr h1 h2 =>
    intro U V y e
    have fin : ∀ {W : List Int} {d : Int}, TC W d → ∀ {d' : Int}, d = d' → TC W d' := fun t _ e => e ▸ t
    rcases List.append_eq_append_iff.mp e with ⟨as, e1, e2⟩ | ⟨bs, e1, e2⟩
    · obtain ⟨k1, k2⟩ := h2 as V y e2
      have t1 := TC.nd tl k1
      have t2 := TC.nd tl k2
      rw [← List.append_assoc, ← e1] at t1 t2
      refine ⟨fin t1 ?_, fin t2 ?_⟩
      · rw [e1, e2]
        simp only [List.sum_append, List.sum_cons]
        omega
      · rw [e1, e2]
        simp only [List.sum_append, List.sum_cons]
        omega
    · cases bs with
      | nil =>
        rw [List.append_nil] at e1
        rw [List.nil_append] at e2
        subst e1
        obtain ⟨k1, k2⟩ := h2 [] V y e2.symm
        refine ⟨fin (TC.nd tl k1) ?_, fin (TC.nd tl k2) ?_⟩
        · rw [← e2]
          simp only [List.sum_append, List.sum_cons, List.nil_append]
          omega
        · rw [← e2]
          simp only [List.sum_append, List.sum_cons, List.nil_append]
          omega
      | cons z bs =>
        rw [List.cons_append] at e2
        obtain ⟨rfl, e3⟩ := List.cons.inj e2
        obtain ⟨k1, k2⟩ := h1 U bs y e1
        have t1 := TC.nd k1 tr
        have t2 := TC.nd k2 tr
        rw [List.append_assoc] at t1 t2
        simp only [List.cons_append] at t1 t2
        rw [← e3] at t1 t2
        refine ⟨fin t1 ?_, fin t2 ?_⟩
        · rw [e1, e3]
          simp only [List.sum_append, List.sum_cons]
          omega
        · rw [e1, e3]
          simp only [List.sum_append, List.sum_cons]
          omega
theorem ring_up {zs : List Int} {c' d : Int} {p' : Nat} (h' : RingIs zs c' p') {X Y : List Int} (ez : zs = X ++ Y) (t : TC (Y ++ X) d) : c' ≤ d := by
  have := ring_le h' (k := X.length) (by rw [ez, List.length_append]; omega)
  rw [ez, rot_app] at this
  exact Int.le_trans this (C_le t)
theorem ring_zero {ns : List Int} {c c' : Int} {p p' j : Nat} (h : RingIs ns c p) (h0 : ∀ x ∈ ns, 0 ≤ x) (hj : j ≤ ns.length) (h' : RingIs (ns.take j ++ [0] ++ ns.drop j) c' p') :
    c ≤ c' ∧ c' ≤ c + ns.getD ((j + ns.length - 1) % ns.length) 0 ∧ c' ≤ c + ns.getD (j % ns.length) 0 := by
  have hn : 1 ≤ ns.length := Nat.lt_of_le_of_lt (Nat.zero_le _) h.lt
  obtain ⟨T, D, eT, hT, eD⟩ : ∃ T D, ns = T ++ D ∧ ns.take j = T ∧ ns.drop j = D := ⟨_, _, (List.take_append_drop j ns).symm, rfl, rfl⟩
  have lT : T.length = j := by rw [← hT, List.length_take]; omega
  rw [hT, eD] at h'
  -- the row where it is cut best
  obtain ⟨A, Bs, e, ea, er⟩ := rot_split (ns := ns) (i := p) (Nat.le_of_lt h.lt)
  have tc := C_tc (ns := rot ns p) (by rw [rot_len]; exact hn)
  rw [h.at_, er] at tc
  have eAB : T ++ D = A ++ Bs := eT.symm.trans e
  have hB : 1 ≤ Bs.length := by
    have := congrArg List.length e
    rw [List.length_append] at this
    have := h.lt
    omega
  refine ⟨?_, ?_, ?_⟩
  · -- a heap less
    have lz : (T ++ [0] ++ D).length = ns.length + 1 := by rw [eT]; simp only [List.length_append, List.length_cons, List.length_nil]; omega
    obtain ⟨A', B', e', ea', er'⟩ := rot_split (ns := T ++ [0] ++ D) (i := p') (Nat.le_of_lt h'.lt)
    have tz := C_tc (ns := rot (T ++ [0] ++ D) p') (by rw [rot_len, lz]; omega)
    rw [h'.at_, er'] at tz
    have pz : ∀ y ∈ B' ++ A', 0 ≤ y := fun y hy => by
      have : y ∈ T ++ [0] ++ D := by
        rw [e']
        exact (List.mem_append.mp hy).elim (List.mem_append_right _) (List.mem_append_left _)
      rcases List.mem_append.mp this with hy | hy
      · rcases List.mem_append.mp hy with hy | hy
        · exact h0 y (by rw [eT]; exact List.mem_append_left _ hy)
        · rw [List.mem_singleton.mp hy]; decide
      · exact h0 y (by rw [eT]; exact List.mem_append_right _ hy)
    have e2 : T ++ (0 :: D) = A' ++ B' := by rw [← e', List.append_assoc]; rfl
    rcases List.append_eq_append_iff.mp e2 with ⟨as, e1, e2⟩ | ⟨bs, e1, e2⟩
    · -- A' = T ++ as, 0 :: D = as ++ B'
      cases as with
      | nil =>
        rw [List.append_nil] at e1
        rw [List.nil_append] at e2
        rw [← e2] at tz
        obtain ⟨x, x1, x2⟩ := tz.less [] (D ++ A') 0 rfl (by rw [← e2] at pz; exact pz) (by rw [e1, List.nil_append, List.length_append]; rw [eT, List.length_append] at hn; omega)
        have := ring_up h (X := T) (Y := D) eT (d := x) (by rw [← e1]; exact x2)
        omega
      | cons z as =>
        rw [List.cons_append] at e2
        obtain ⟨rfl, e3⟩ := List.cons.inj e2
        have e4 : B' ++ A' = (B' ++ T) ++ 0 :: as := by rw [e1, List.append_assoc]
        obtain ⟨x, x1, x2⟩ := tz.less (B' ++ T) as 0 e4 pz (by rw [List.length_append, List.length_append]; rw [eT, e3, List.length_append, List.length_append] at hn; omega)
        have := ring_up h (X := T ++ as) (Y := B') (by rw [eT, e3, List.append_assoc]) (d := x) (by rw [← List.append_assoc]; exact x2)
        omega
    · -- T = A' ++ bs, B' = bs ++ 0 :: D
      have e4 : B' ++ A' = bs ++ 0 :: (D ++ A') := by rw [e2, List.append_assoc]; rfl
      obtain ⟨x, x1, x2⟩ := tz.less bs (D ++ A') 0 e4 pz (by rw [List.length_append, List.length_append]; rw [eT, e1, List.length_append, List.length_append] at hn; omega)
      have := ring_up h (X := A') (Y := bs ++ D) (by rw [eT, e1, List.append_assoc]) (d := x) (by rw [List.append_assoc]; exact x2)
      omega
  · -- beside the one ahead of it
    by_cases hj0 : j = 0
    · have eT0 : T = [] := List.length_eq_zero_iff.mp (by omega)
      subst eT0
      rw [List.nil_append] at eT eAB
      obtain ⟨E, y, ey⟩ : ∃ E y, Bs = E ++ [y] := ⟨_, _, (List.dropLast_concat_getLast (fun z => by rw [z] at hB; simp at hB)).symm⟩
      have eg : ns.getD ((j + ns.length - 1) % ns.length) 0 = y := by
        rw [hj0, Nat.zero_add, Nat.mod_eq_of_lt (by omega), List.getD_eq_getElem?_getD, e, ey, ← List.append_assoc]
        rw [List.getElem?_append_right (by simp)]
        simp
      rw [eg]
      have t := (tc.more E A y (by rw [ey, List.append_assoc]; rfl)).1
      refine ring_up h' (X := 0 :: A) (Y := E ++ [y]) ?_ ?_
      · rw [eAB, ey]
        rfl
      · rw [List.append_assoc]
        exact t
    · obtain ⟨E, y, ey⟩ : ∃ E y, T = E ++ [y] := ⟨_, _, (List.dropLast_concat_getLast (fun z => by rw [z] at lT; simp at lT; omega)).symm⟩
      have eg : ns.getD ((j + ns.length - 1) % ns.length) 0 = y := by
        rw [show j + ns.length - 1 = (j - 1) + ns.length by omega, Nat.add_mod_right, Nat.mod_eq_of_lt (by omega), List.getD_eq_getElem?_getD, eT, ey]
        have : E.length = j - 1 := by rw [ey, List.length_append] at lT; simp at lT; omega
        rw [List.append_assoc, List.getElem?_append_right (by omega), this, Nat.sub_self]
        rfl
      rw [eg]
      subst ey
      have e2 : E ++ (y :: D) = A ++ Bs := by rw [← eAB, List.append_assoc]; rfl
      have ez : E ++ [y] ++ [0] ++ D = E ++ y :: 0 :: D := by simp
      rcases List.append_eq_append_iff.mp e2 with ⟨as, e1, e2⟩ | ⟨bs, e1, e2⟩
      · -- A = E ++ as, y :: D = as ++ Bs
        cases as with
        | nil =>
          rw [List.append_nil] at e1
          rw [List.nil_append] at e2
          have t := (tc.more [] (D ++ A) y (by rw [← e2]; rfl)).1
          exact ring_up h' (X := E) (Y := y :: 0 :: D) ez (by rw [← e1]; exact t)
        | cons z as =>
          rw [List.cons_append] at e2
          obtain ⟨rfl, e3⟩ := List.cons.inj e2
          have t := (tc.more (Bs ++ E) as y (by rw [e1, List.append_assoc])).1
          exact ring_up h' (X := E ++ y :: 0 :: as) (Y := Bs) (by rw [ez, e3]; simp) (by rw [← List.append_assoc]; exact t)
      · -- E = A ++ bs, Bs = bs ++ y :: D
        have t := (tc.more bs (D ++ A) y (by rw [e2, List.append_assoc]; rfl)).1
        exact ring_up h' (X := A) (Y := bs ++ y :: 0 :: D) (by rw [ez, e1, List.append_assoc]) (by rw [List.append_assoc]; exact t)
  · -- beside the one behind it
    by_cases hj1 : j = ns.length
    · have eD0 : D = [] := by rw [← eD, hj1]; exact List.drop_length
      subst eD0
      rw [List.append_nil] at eT eAB h'
      cases A with
      | nil =>
        rw [List.nil_append] at eAB e
        rw [List.append_nil] at tc
        obtain ⟨y, E, ey⟩ : ∃ y E, Bs = y :: E := by
          cases Bs with
          | nil => simp at hB
          | cons y E => exact ⟨y, E, rfl⟩
        have eg : ns.getD (j % ns.length) 0 = y := by
          rw [hj1, Nat.mod_self, List.getD_eq_getElem?_getD, e, ey]
          rfl
        rw [eg]
        have t := (tc.more [] E y (by rw [ey]; rfl)).2
        exact ring_up h' (X := T) (Y := [0]) rfl (by rw [eAB, ey]; exact t)
      | cons y A =>
        have eg : ns.getD (j % ns.length) 0 = y := by
          rw [hj1, Nat.mod_self, List.getD_eq_getElem?_getD, e]
          rfl
        rw [eg]
        have t := (tc.more Bs A y rfl).2
        exact ring_up h' (X := y :: A) (Y := Bs ++ [0]) (by rw [eAB]; simp) (by simpa using t)
    · obtain ⟨y, E, ey⟩ : ∃ y E, D = y :: E := by
        cases D with
        | nil => rw [eT, List.append_nil] at hj1; exact absurd lT.symm hj1
        | cons y E => exact ⟨y, E, rfl⟩
      have eg : ns.getD (j % ns.length) 0 = y := by
        rw [Nat.mod_eq_of_lt (by omega), List.getD_eq_getElem?_getD, eT, ey, List.getElem?_append_right (by omega), lT, Nat.sub_self]
        rfl
      rw [eg]
      subst ey
      have ez : T ++ [0] ++ y :: E = T ++ 0 :: y :: E := by simp
      rcases List.append_eq_append_iff.mp eAB with ⟨as, e1, e2⟩ | ⟨bs, e1, e2⟩
      · -- A = T ++ as, y :: E = as ++ Bs
        cases as with
        | nil =>
          rw [List.append_nil] at e1
          rw [List.nil_append] at e2
          have t := (tc.more [] (E ++ A) y (by rw [← e2]; rfl)).2
          exact ring_up h' (X := T) (Y := 0 :: y :: E) ez (by rw [← e1]; exact t)
        | cons z as =>
          rw [List.cons_append] at e2
          obtain ⟨rfl, e3⟩ := List.cons.inj e2
          have t := (tc.more (Bs ++ T) as y (by rw [e1, List.append_assoc])).2
          exact ring_up h' (X := T ++ 0 :: y :: as) (Y := Bs) (by rw [ez, e3]; simp) (by rw [← List.append_assoc]; exact t)
      · -- T = A ++ bs, Bs = bs ++ y :: E
        have t := (tc.more bs (E ++ A) y (by rw [e2, List.append_assoc]; rfl)).2
        exact ring_up h' (X := A) (Y := bs ++ 0 :: y :: E) (by rw [ez, e1, List.append_assoc]) (by rw [List.append_assoc]; exact t)
theorem cyc_get {ns : List Int} {j m : Nat} (hn : 0 < ns.length) (e : j % ns.length = m) : (ns.map PyData.int)[m]? = some (.int (ns.getD (j % ns.length) 0)) := by
  have hm : m < ns.length := by rw [← e]; exact Nat.mod_lt _ hn
  rw [e, List.getElem?_map, List.getElem?_eq_getElem hm, List.getD_eq_getElem?_getD, List.getElem?_eq_getElem hm]
  rfl
theorem at_before {ns : List Int} {j : Nat} (hn : 0 < ns.length) (hj : j ≤ ns.length) : L2.atI (ns.map PyData.int) ((j : Int) - 1) = some (.int (ns.getD ((j + ns.length - 1) % ns.length) 0)) := by
  by_cases h : j = 0
  · subst h
    refine atI_last (cyc_get hn ?_)
    rw [List.length_map, Nat.zero_add]
    exact Nat.mod_eq_of_lt (by omega)
  · refine atI_at (i := j - 1) (by omega) (cyc_get hn ?_)
    rw [show j + ns.length - 1 = (j - 1) + ns.length by omega, Nat.add_mod_right]
    exact Nat.mod_eq_of_lt (by omega)
theorem at_behind {ns : List Int} {j : Nat} (hn : 0 < ns.length) (hj : j ≤ ns.length) : L2.atI (ns.map PyData.int ++ ns.map PyData.int) (j : Int) = some (.int (ns.getD (j % ns.length) 0)) := by
  refine atI_nat ?_
  by_cases h : j = ns.length
  · rw [List.getElem?_append_right (by rw [List.length_map]; omega)]
    exact cyc_get hn (by rw [List.length_map, h, Nat.mod_self, Nat.sub_self])
  · rw [List.getElem?_append_left (by rw [List.length_map]; omega)]
    exact cyc_get hn (Nat.mod_eq_of_lt (by omega))
end J
namespace J
open PySem PySem.Spec PyProof.Rows L2
local macro_rules | `(tactic| walk_at "side") => `(tactic| first
  | (show (0 : Int) < _; omega) | omega | exact ⟨by omega, by omega⟩ | exact Or.inl ⟨by omega, by omega⟩ | exact Or.inr ⟨by omega, by omega⟩ | exact ⟨by decide, by decide, by decide⟩ | (refine ⟨?_, ?_, ?_, ?_⟩ <;> omega) | (show _ ≤ sizeLine; simp only [List.length_cons, List.length_nil]; decide) | decide | assumption)
local macro_rules | `(tactic| walk_at "mem") => `(tactic| first | exact List.mem_cons_self | exact List.mem_cons_of_mem _ List.mem_cons_self | exact List.mem_cons_of_mem _ (List.mem_cons_of_mem _ List.mem_cons_self))
local macro_rules | `(tactic| walk_at "j") => `(tactic| first
  | with_reducible refine ev_op ?_ | with_reducible refine ev_un ?_ | with_reducible refine ev_int ?_ | with_reducible refine ev_bl ?_ | with_reducible refine ev_str ?_ | with_reducible refine ev_non ?_ | with_reducible refine ev_cb ?_ | with_reducible refine eva_nil ?_ | with_reducible refine eva_cons ?_
  | ((with_reducible refine' ev_var ?h1 ?_); (case h1 => rfl))
  | with_reducible refine rv_plus ?_ | with_reducible refine rv_lt ?_ | with_reducible refine rv_eqI ?_ | with_reducible refine rv_neI ?_
  | ((with_reducible refine' rv_times ?h1 ?_); (case h1 => walk_at "side"))
  | with_reducible refine rv_i0 ?_ | with_reducible refine rv_b0 ?_ | ((with_reducible refine' rv_i ?h1 ?_); (case h1 => walk_at "side")) | with_reducible refine ru_i ?_
  | ((with_reducible refine' rv_ixT ?h1 ?_); (case h1 => rfl)) | ((with_reducible refine' rv_ixL ?h1 ?_); (case h1 => rfl)) | ((with_reducible refine' rv_ixC ?h1 ?h2 ?_); (case h1 => walk_at "mem"); (case h2 => rfl))
  | with_reducible refine ev_sl ?_ | with_reducible refine evo_none ?_ | with_reducible refine evo_some ?_ | with_reducible refine rs_tup ?_ | with_reducible refine rs_listD ?_
  | with_reducible refine rc_lenT ?_ | with_reducible refine rc_lenL ?_ | ((with_reducible refine' rc_lenC ?h1 ?_); (case h1 => walk_at "mem")) | with_reducible refine rc_abs ?_ | with_reducible refine rc_min2 ?_ | with_reducible refine rc_max2 ?_
  | with_reducible refine ev_tup1 ?_ | with_reducible refine ev_tup2 ?_ | with_reducible refine ev_tup3 ?_
  | with_reducible refine evt_not ?_ | with_reducible refine evt_test ?_
  | ((with_reducible refine' rs_setL 0 ?h1 ?h2 ?_); (case h1 => rfl); (case h2 => rfl))
  | with_reducible refine ⟨_, rfl, ?_⟩
  | with_reducible refine ⟨_, _, rfl, rfl, ?_⟩ | with_reducible refine ⟨_, _, _, rfl, rfl, rfl, ?_⟩
  | with_reducible refine go_if ?_
  | with_reducible refine go_seq ?_ | with_reducible refine go_asg ?_ | with_reducible refine go_sub ?_ | with_reducible refine nxt_seq ?_ | with_reducible refine nxt_ret ?_ | with_reducible refine nxt_asg ?_ | with_reducible refine nxt_if ?_ | with_reducible refine nxt_for ?_ | with_reducible refine nxt_while ?_ | with_reducible refine nxt_drop ?_ | with_reducible refine nxt_cut ?_ | with_reducible refine nxt_aug ?_ | with_reducible refine nxt_next ?_ | with_reducible refine go_next ?_ | with_reducible refine go_drop ?_ | (with_reducible refine go_ret (by assumption) ?_))
def topS (i : Nat) : Stmt := PySem.Challenge.pw_joinedheaps_k35_whole_rings.main.body.getD i (.Pass ⟨0, 0, 0, 0⟩)
structure Txt (mg : Str → Option Value) : Prop where
  len : mg "len" = none
  range : mg "range" = none
  sum : mg "sum" = none
  min : mg "min" = none
  max : mg "max" = none
  abs : mg "abs" = none
  sorted : mg "sorted" = none
  tuple : mg "tuple" = none
  enumerate : mg "enumerate" = none
end J
namespace J
open PySem PySem.Spec PyProof.Rows L2
local macro_rules | `(tactic| walk_at "side") => `(tactic| first
  | (show (0 : Int) < _; omega) | omega | exact ⟨by omega, by omega⟩ | exact Or.inl ⟨by omega, by omega⟩ | exact Or.inr ⟨by omega, by omega⟩ | exact ⟨by decide, by decide, by decide⟩ | (refine ⟨?_, ?_, ?_, ?_⟩ <;> omega) | (show _ ≤ sizeLine; simp only [List.length_cons, List.length_nil]; decide) | decide | assumption)
local macro_rules | `(tactic| walk_at "mem") => `(tactic| first | exact List.mem_cons_self | exact List.mem_cons_of_mem _ List.mem_cons_self | exact List.mem_cons_of_mem _ (List.mem_cons_of_mem _ List.mem_cons_self))
local macro_rules | `(tactic| walk_at "j") => `(tactic| first
  | with_reducible refine ev_op ?_ | with_reducible refine ev_un ?_ | with_reducible refine ev_int ?_ | with_reducible refine ev_bl ?_ | with_reducible refine ev_str ?_ | with_reducible refine ev_non ?_ | with_reducible refine ev_cb ?_ | with_reducible refine eva_nil ?_ | with_reducible refine eva_cons ?_
  | ((with_reducible refine' ev_var ?h1 ?_); (case h1 => rfl))
  | with_reducible refine rv_plus ?_ | with_reducible refine rv_lt ?_ | with_reducible refine rv_eqI ?_ | with_reducible refine rv_neI ?_
  | ((with_reducible refine' rv_times ?h1 ?_); (case h1 => walk_at "side"))
  | with_reducible refine rv_i0 ?_ | with_reducible refine rv_b0 ?_ | ((with_reducible refine' rv_i ?h1 ?_); (case h1 => walk_at "side")) | with_reducible refine ru_i ?_
  | ((with_reducible refine' rv_ixT ?h1 ?_); (case h1 => rfl)) | ((with_reducible refine' rv_ixL ?h1 ?_); (case h1 => rfl)) | ((with_reducible refine' rv_ixC ?h1 ?h2 ?_); (case h1 => walk_at "mem"); (case h2 => rfl))
  | with_reducible refine ev_sl ?_ | with_reducible refine evo_none ?_ | with_reducible refine evo_some ?_ | with_reducible refine rs_tup ?_ | with_reducible refine rs_listD ?_
  | with_reducible refine rc_lenT ?_ | with_reducible refine rc_lenL ?_ | ((with_reducible refine' rc_lenC ?h1 ?_); (case h1 => walk_at "mem")) | with_reducible refine rc_abs ?_ | with_reducible refine rc_min2 ?_ | with_reducible refine rc_max2 ?_
  | with_reducible refine ev_tup1 ?_ | with_reducible refine ev_tup2 ?_ | with_reducible refine ev_tup3 ?_
  | with_reducible refine evt_not ?_ | with_reducible refine evt_test ?_
  | ((with_reducible refine' rs_setL 0 ?h1 ?h2 ?_); (case h1 => rfl); (case h2 => rfl))
  | with_reducible refine ⟨_, rfl, ?_⟩
  | with_reducible refine ⟨_, _, rfl, rfl, ?_⟩ | with_reducible refine ⟨_, _, _, rfl, rfl, rfl, ?_⟩
  | with_reducible refine go_if ?_
  | with_reducible refine go_seq ?_ | with_reducible refine go_asg ?_ | with_reducible refine go_sub ?_ | with_reducible refine nxt_seq ?_ | with_reducible refine nxt_ret ?_ | with_reducible refine nxt_asg ?_ | with_reducible refine nxt_if ?_ | with_reducible refine nxt_for ?_ | with_reducible refine nxt_while ?_ | with_reducible refine nxt_drop ?_ | with_reducible refine nxt_cut ?_ | with_reducible refine nxt_aug ?_ | with_reducible refine nxt_next ?_ | with_reducible refine go_next ?_ | with_reducible refine go_drop ?_ | (with_reducible refine go_ret (by assumption) ?_))
/-- the deck: its three numbers -/
def deckC (a : Addr) (g m t : Int) : Addr × Cell := (a, .lst [.im (.int g), .im (.int m), .im (.int t)])
def preDraw (as : List SD) (μ : Store) (k : SD → Store → Prop) : Prop := ∃ a g m t most, as = [.mt a, .im (.int most)] ∧ μ = [deckC a g m t] ∧ 0 ≤ g ∧ 0 < most ∧ most < 1000000000 ∧ -(2 ^ 40) < t ∧ t < 2 ^ 40 ∧
  ∀ r g', 0 ≤ r → r < most → 0 ≤ g' → k (.im (.int r)) [deckC a g' m (t + 1)]
abbrev s__law_draw : Stmt := topS 9
abbrev N__law_draw : List Str := ["deck", "most", "found", "turn", "one"]
theorem sc__law_draw : FnScope N__law_draw ["deck", "most"] (defScope s__law_draw) := ⟨rfl, rfl, rfl, by decide +kernel, rfl, by decide +kernel, by decide +kernel⟩
-- 0:deck 1:most 2:found 3:turn 4:one
section
variable {P : Program} {w : World} {K : PySem.W.Frag} {mg : Str → Option Value} {base : Heap} {f : Addr} {fd : FuncData}
theorem ok__law_draw (T : Txt mg) (F : Fun K "_law_draw" "_law_draw" s__law_draw f fd) : FnOk P w K mg base CX0 1 f fd ["deck", "most"] (SpR preDraw) := by
  refine fn_ok F sc__law_draw (fun as μ k h => by obtain ⟨a, g, m, t, most, rfl, _⟩ := h; rfl) fun cdv A outer s H E hr => ⟨_,
(pss_cons (ps_asg (pe_op (k_plus (K := K) rfl) (pe_ix (k_ix (K := K) rfl) (pv 0) pe_int (fun _ _ => rfl)) pe_int) (pg_sub (pv 0) pe_int set_list))
(pss_cons (ps_if (pt_cmpR op_gt (pe_ix (k_ix (K := K) rfl) (pv 0) pe_int (fun _ _ => rfl)) pe_int (nomark _))
(pss_cons (ps_set (i := 2) sc__law_draw.nd rfl (by first | exact Or.inl rfl | exact Or.inr rfl) (pe_op op_mod (pe_ix (k_ix (K := K) rfl) (pv 0) pe_int (fun _ _ => rfl)) (pv 1)))
(pss_cons (ps_asg (pe_op op_fdiv (pe_ix (k_ix (K := K) rfl) (pv 0) pe_int (fun _ _ => rfl)) (pv 1)) (pg_sub (pv 0) pe_int set_list))
(pss_one (ps_ret (pv 2)))))
pss_nil)
(pss_cons (ps_set (i := 3) sc__law_draw.nd rfl (by first | exact Or.inl rfl | exact Or.inr rfl) (pe_ix (k_ix (K := K) rfl) (pv 0) pe_int (fun _ _ => rfl)))
(pss_cons (ps_set (i := 4) sc__law_draw.nd rfl (by first | exact Or.inl rfl | exact Or.inr rfl) (pe_op op_mod (pe_op (k_plus (K := K) rfl) (pe_op (k_plus (K := K) rfl) (pe_ix (k_ix (K := K) rfl) (pv 0) pe_int (fun _ _ => rfl)) (pe_op op_times (pe_op op_times pe_int (pv 3)) (pv 3))) (pe_op op_times pe_int (pv 3))) pe_int))
(pss_cons (ps_set (i := 4) sc__law_draw.nd rfl (by first | exact Or.inl rfl | exact Or.inr rfl) (pe_op op_mod (pe_op op_times (pv 4) (pv 4)) pe_int))
(pss_one (ps_ret (pe_op op_mod (pe_op op_fdiv (pe_op op_mod (pe_op (k_plus (K := K) rfl) (pe_op op_times (pv 4) pe_int) (pe_op op_times (pv 3) pe_int)) pe_int) pe_int) (pv 1)))))))))
, fun as μ k g Q h hM hR => ?_⟩
  obtain ⟨a, gr, m, t, most, rfl, rfl, h0, h1, h2, h3, h4, hk⟩ := h
  repeat (walk_at "j")
  refine ⟨fun hb => ?_, fun hb => ?_⟩
  · have hb := of_decide_eq_true hb
    repeat (walk_at "j")
    exact hk (gr % most) (gr / most) (Int.emod_nonneg _ (by omega)) (Int.emod_lt_of_pos _ h1) (Int.ediv_nonneg h0 (by omega))
  · have hb := of_decide_eq_false hb
    repeat (walk_at "j")
    exact hk _ gr (Int.emod_nonneg _ (by omega)) (Int.emod_lt_of_pos _ h1) h0
end
end J
namespace J
open PySem PySem.Spec PyProof.Rows L2
local macro_rules | `(tactic| walk_at "side") => `(tactic| first
  | (show (0 : Int) < _; omega) | omega | exact ⟨by omega, by omega⟩ | exact Or.inl ⟨by omega, by omega⟩ | exact Or.inr ⟨by omega, by omega⟩ | exact ⟨by decide, by decide, by decide⟩ | (refine ⟨?_, ?_, ?_, ?_⟩ <;> omega) | (show _ ≤ sizeLine; simp only [List.length_cons, List.length_nil]; decide) | decide | assumption)
local macro_rules | `(tactic| walk_at "mem") => `(tactic| first | exact List.mem_cons_self | exact List.mem_cons_of_mem _ List.mem_cons_self | exact List.mem_cons_of_mem _ (List.mem_cons_of_mem _ List.mem_cons_self))
local macro_rules | `(tactic| walk_at "j") => `(tactic| first
  | with_reducible refine ev_op ?_ | with_reducible refine ev_un ?_ | with_reducible refine ev_int ?_ | with_reducible refine ev_bl ?_ | with_reducible refine ev_str ?_ | with_reducible refine ev_non ?_ | with_reducible refine ev_cb ?_ | with_reducible refine eva_nil ?_ | with_reducible refine eva_cons ?_
  | ((with_reducible refine' ev_var ?h1 ?_); (case h1 => rfl))
  | with_reducible refine rv_plus ?_ | with_reducible refine rv_lt ?_ | with_reducible refine rv_eqI ?_ | with_reducible refine rv_neI ?_
  | ((with_reducible refine' rv_times ?h1 ?_); (case h1 => walk_at "side"))
  | with_reducible refine rv_i0 ?_ | with_reducible refine rv_b0 ?_ | ((with_reducible refine' rv_i ?h1 ?_); (case h1 => walk_at "side")) | with_reducible refine ru_i ?_
  | ((with_reducible refine' rv_ixT ?h1 ?_); (case h1 => rfl)) | ((with_reducible refine' rv_ixL ?h1 ?_); (case h1 => rfl)) | ((with_reducible refine' rv_ixC ?h1 ?h2 ?_); (case h1 => walk_at "mem"); (case h2 => rfl))
  | with_reducible refine ev_sl ?_ | with_reducible refine evo_none ?_ | with_reducible refine evo_some ?_ | with_reducible refine rs_tup ?_ | with_reducible refine rs_listD ?_
  | with_reducible refine rc_lenT ?_ | with_reducible refine rc_lenL ?_ | ((with_reducible refine' rc_lenC ?h1 ?_); (case h1 => walk_at "mem")) | with_reducible refine rc_abs ?_ | with_reducible refine rc_min2 ?_ | with_reducible refine rc_max2 ?_
  | with_reducible refine ev_tup1 ?_ | with_reducible refine ev_tup2 ?_ | with_reducible refine ev_tup3 ?_
  | with_reducible refine evt_not ?_ | with_reducible refine evt_test ?_
  | ((with_reducible refine' rs_setL 0 ?h1 ?h2 ?_); (case h1 => rfl); (case h2 => rfl))
  | with_reducible refine ⟨_, rfl, ?_⟩
  | with_reducible refine ⟨_, _, rfl, rfl, ?_⟩ | with_reducible refine ⟨_, _, _, rfl, rfl, rfl, ?_⟩
  | with_reducible refine go_if ?_
  | with_reducible refine go_seq ?_ | with_reducible refine go_asg ?_ | with_reducible refine go_sub ?_ | with_reducible refine nxt_seq ?_ | with_reducible refine nxt_ret ?_ | with_reducible refine nxt_asg ?_ | with_reducible refine nxt_if ?_ | with_reducible refine nxt_for ?_ | with_reducible refine nxt_while ?_ | with_reducible refine nxt_drop ?_ | with_reducible refine nxt_cut ?_ | with_reducible refine nxt_aug ?_ | with_reducible refine nxt_next ?_ | with_reducible refine go_next ?_ | with_reducible refine go_drop ?_ | (with_reducible refine go_ret (by assumption) ?_))
abbrev s_best_by_stretches : Stmt := topS 1
abbrev N_best_by_stretches : List Str := ["heaps", "many", "found", "length", "first", "weight", "some", "part", "left", "right", "depths", "least", "depth", "cost", "tree", "one"]
theorem sc_best_by_stretches : FnScope N_best_by_stretches ["heaps"] (defScope s_best_by_stretches) := ⟨rfl, rfl, rfl, by decide +kernel, rfl, by decide +kernel, by decide +kernel⟩
-- 0:heaps 1:many 2:found 3:length 4:first 5:weight 6:some 7:part 8:left 9:right 10:depths 11:least 12:depth 13:cost 14:tree 15:one
/-- the rows while a stretch length L is under way: those before j have it -/
def rowsJ (ns : List Int) (L j : Nat) : List (List PyData) := (List.range ns.length).map fun f => if f < j then rowL ns L f else rowL ns (L - 1) f
theorem rowsJ_len (ns : List Int) (L j : Nat) : (rowsJ ns L j).length = ns.length := by unfold rowsJ; simp
theorem rowsJ_all (ns : List Int) (L j : Nat) (h : ns.length < L + j) : rowsJ ns L j = rowsJ ns (L + 1) 0 := by
  unfold rowsJ
  refine List.map_congr_left fun f hf => ?_
  have hf := List.mem_range.mp hf
  rw [if_neg (Nat.not_lt_zero f), Nat.add_sub_cancel]
  by_cases h1 : f < j
  · rw [if_pos h1]
  · rw [if_neg h1]
    unfold rowL
    rw [show min (L - 1) (ns.length - f) = min L (ns.length - f) by omega]
theorem rowsJ_one (ns : List Int) : rowsJ ns 2 0 = (List.range ns.length).map fun f => [encC ⟨0, [0], .lf f⟩] := by
  unfold rowsJ
  refine List.map_congr_left fun f hf => ?_
  have hf := List.mem_range.mp hf
  rw [if_neg (Nat.not_lt_zero f)]
  unfold rowL
  rw [show min (2 - 1) (ns.length - f) = 1 by omega]
  show [encC (B ns 1 f)] = _
  rw [B_one ns f (Nat.le_refl _)]
theorem rowL_get {ns : List Int} {m f i : Nat} (h1 : i < m) (h2 : i < ns.length - f) : (rowL ns m f)[i]? = some (encC (B ns (i + 1) f)) := by
  unfold rowL
  rw [List.getElem?_map, List.getElem?_range (by omega)]
  rfl
theorem rowsJ_get {ns : List Int} {L j f : Nat} (h : f < ns.length) : (rowsJ ns L j)[f]? = some (if f < j then rowL ns L f else rowL ns (L - 1) f) := by
  unfold rowsJ
  rw [List.getElem?_map, List.getElem?_range h]
  rfl
theorem rowsJ_set {ns : List Int} {L j : Nat} (h0 : 1 ≤ L) (h : j + L ≤ ns.length) : (rowsJ ns L j).set j (rowL ns (L - 1) j ++ [encC (B ns L j)]) = rowsJ ns L (j + 1) := by
  apply List.ext_getElem?
  intro f
  by_cases hf : f < ns.length
  · by_cases e : j = f
    · subst e
      rw [List.getElem?_set_self (by rw [rowsJ_len]; exact hf), rowsJ_get hf, if_pos (Nat.lt_succ_self j)]
      unfold rowL
      rw [show min L (ns.length - j) = (L - 1) + 1 by omega, show min (L - 1) (ns.length - j) = L - 1 by omega, List.range_succ, List.map_append, List.map_cons, List.map_nil, show L - 1 + 1 = L by omega]
    · rw [List.getElem?_set_ne e, rowsJ_get hf, rowsJ_get hf]
      by_cases q : f < j
      · rw [if_pos q, if_pos (by omega)]
      · rw [if_neg q, if_neg (by omega)]
  · rw [List.getElem?_eq_none (by rw [List.length_set, rowsJ_len]; omega), List.getElem?_eq_none (by rw [rowsJ_len]; omega)]
abbrev rB (ns : List Int) (n : Nat) (p : Addr) : Ren := [some (.im (encH ns)), some (.im (.int n)), some (.mt p), none, none, none, none, none, none, none, none, none, none, none, none, none]
abbrev rC (ns : List Int) (n : Nat) (p : Addr) (i j : Nat) (a : Addr) : Ren := [some (.im (encH ns)), some (.im (.int n)), some (.mt p), some (.im (.int (2 + i))), some (.im (.int j)), some (.im (.int (wsum ns j (i + 2)))), some (.mt a), none, none, none, none, none, none, none, none, none]
local macro_rules | `(tactic| walk_at "fg") => `(tactic| repeat (first | exact Fg.nil | refine Fg.keep ?_ | refine Fg.drop ?_))
abbrev tupC (x : Cand) : PyData := .tuple [.int x.c, .tuple (x.ds.map .int), encT x.t]
def preBest (as : List SD) (μ : Store) (k : SD → Store → Prop) : Prop := ∃ ns : List Int, as = [.im (encH ns)] ∧ μ = [] ∧ 1 ≤ ns.length ∧ ns.length ≤ 24 ∧ k (.im (tabD ns)) []
section
variable {P : Program} {w : World} {K : PySem.W.Frag} {mg : Str → Option Value} {base : Heap} {f : Addr} {fd : FuncData}
theorem ok_best_by_stretches (T : Txt mg) (F : Fun K "best_by_stretches" "best_by_stretches" s_best_by_stretches f fd) : FnOk P w K mg base CX0 1 f fd ["heaps"] (SpR preBest) := by
  refine fn_ok F sc_best_by_stretches (fun as μ k h => by obtain ⟨ns, rfl, _⟩ := h; rfl) fun cdv A outer s H E hr => ⟨_,
(pss_cons (ps_set (i := 1) sc_best_by_stretches.nd rfl (by first | exact Or.inl rfl | exact Or.inr rfl) (pe_callB (k_len (K := K) rfl) (by rfl) T.len bt_len (pa_cons (pv 0) pa_nil)))
(pss_cons (ps_setLc (i := 2) (own := [("first", 4)]) (g := gName 4) (tt := tYes) rfl sc_best_by_stretches.nd rfl rfl (sw_true rfl rfl rfl (by decide +kernel)) (pi_range1 (by rfl) T.range (pa_cons (pv 1) pa_nil)) (blkOk_by (N := N_best_by_stretches) (sc := defScope s_best_by_stretches) (by decide +kernel)) (fun _ _ _ _ _ => (pg_name (i := 4) sc_best_by_stretches.nd rfl (by first | exact Or.inl rfl | exact Or.inr rfl))) (fun _ _ _ _ _ => pts_nil) (fun _ _ _ _ _ => (pe_lst (pa_cons (pe_tup (pa_cons pe_int (pa_cons (pe_tup (pa_cons pe_int pa_nil)) (pa_cons (pv 4) pa_nil)))) pa_nil))))
(pss_cons (ps_for PassesOwn.never rfl (pi_range2 (by rfl) T.range (pa_cons pe_int (pa_cons (pe_op (k_plus (K := K) rfl) (pv 1) pe_int) pa_nil))) (pg_name (i := 3) sc_best_by_stretches.nd rfl (by first | exact Or.inl rfl | exact Or.inr rfl))
(pss_one (ps_for PassesOwn.never rfl (pi_range1 (by rfl) T.range (pa_cons (pe_op (k_plus (K := K) rfl) (pe_op op_sub (pv 1) (pv 3)) pe_int) pa_nil)) (pg_name (i := 4) sc_best_by_stretches.nd rfl (by first | exact Or.inl rfl | exact Or.inr rfl))
(pss_cons (ps_set (i := 5) sc_best_by_stretches.nd rfl (by first | exact Or.inl rfl | exact Or.inr rfl) (pe_callB (k_sum (K := K) rfl rfl) (by rfl) T.sum bt_sum (pa_cons (pe_slice (k_sl (K := K) rfl) (pv 0) (po_some (pv 4)) (po_some (pe_op (k_plus (K := K) rfl) (pv 4) (pv 3)))) pa_nil)))
(pss_cons (ps_set (i := 6) sc_best_by_stretches.nd rfl (by first | exact Or.inl rfl | exact Or.inr rfl) (pe_lst pa_nil))
(pss_cons (ps_for PassesOwn.never rfl (pi_range2 (by rfl) T.range (pa_cons pe_int (pa_cons (pv 3) pa_nil))) (pg_name (i := 7) sc_best_by_stretches.nd rfl (by first | exact Or.inl rfl | exact Or.inr rfl))
(pss_cons (ps_set (i := 8) sc_best_by_stretches.nd rfl (by first | exact Or.inl rfl | exact Or.inr rfl) (pe_ix (k_ix (K := K) rfl) (pe_ix (k_ix (K := K) rfl) (pv 2) (pv 4) (fun _ _ => rfl)) (pe_op op_sub (pv 7) pe_int) (fun _ _ => rfl)))
(pss_cons (ps_set (i := 9) sc_best_by_stretches.nd rfl (by first | exact Or.inl rfl | exact Or.inr rfl) (pe_ix (k_ix (K := K) rfl) (pe_ix (k_ix (K := K) rfl) (pv 2) (pe_op (k_plus (K := K) rfl) (pv 4) (pv 7)) (fun _ _ => rfl)) (pe_op op_sub (pe_op op_sub (pv 3) (pv 7)) pe_int) (fun _ _ => rfl)))
(pss_cons (ps_set (i := 10) sc_best_by_stretches.nd rfl (by first | exact Or.inl rfl | exact Or.inr rfl) (pe_callTy (k_tuple (K := K) rfl) (by rfl) T.tuple bt_tuple (pa_cons (pe_lc (own := [("depth", 12)]) (g := gName 12) (tt := tYes) rfl sc_best_by_stretches.nd (k_seq (K := K) rfl (pe_op (k_plus (K := K) rfl) (pe_ix (k_ix (K := K) rfl) (pv 8) pe_int (fun _ _ => rfl)) (pe_ix (k_ix (K := K) rfl) (pv 9) pe_int (fun _ _ => rfl)))) (blkOk_by (N := N_best_by_stretches) (sc := defScope s_best_by_stretches) (by decide +kernel)) (fun _ _ _ _ _ => (pg_name (i := 12) sc_best_by_stretches.nd rfl (by first | exact Or.inl rfl | exact Or.inr rfl))) (fun _ _ _ _ _ => pts_nil) (fun _ _ _ _ _ => (pe_op (k_plus (K := K) rfl) (pv 12) pe_int))) pa_nil)))
(pss_one (ps_expr (k_bm (K := K) rfl PySem.F.plainAttrs_list PySem.F.slot_list_append PySem.F.type_list_append mt_append (pv 6) (pa_cons (pe_tup (pa_cons (pe_op (k_plus (K := K) rfl) (pe_op (k_plus (K := K) rfl) (pe_ix (k_ix (K := K) rfl) (pv 8) pe_int (fun _ _ => rfl)) (pe_ix (k_ix (K := K) rfl) (pv 9) pe_int (fun _ _ => rfl))) (pv 5)) (pa_cons (pv 10) (pa_cons (pe_tup (pa_cons (pe_ix (k_ix (K := K) rfl) (pv 8) pe_int (fun _ _ => rfl)) (pa_cons (pe_ix (k_ix (K := K) rfl) (pv 9) pe_int (fun _ _ => rfl)) pa_nil))) pa_nil)))) pa_nil))))))))
(pss_cons (ps_set (i := 11) sc_best_by_stretches.nd rfl (by first | exact Or.inl rfl | exact Or.inr rfl) (pe_callB (k_min (K := K) rfl rfl hr) (by rfl) T.min bt_min (pa_cons (pe_lc (own := [("cost", 13), ("depths", 10), ("tree", 14)]) (g := gTup K 3 (gCons (gName 13) (gCons (gName 10) (gCons (gName 14) gNil)))) (tt := tYes) rfl sc_best_by_stretches.nd (k_seq (K := K) rfl (pv 6)) (blkOk_by (N := N_best_by_stretches) (sc := defScope s_best_by_stretches) (by decide +kernel)) (fun _ _ _ _ _ => (k_tup (K := K) rfl rfl (pgs_cons (pg_name (i := 13) sc_best_by_stretches.nd rfl (by first | exact Or.inl rfl | exact Or.inr rfl)) (pgs_cons (pg_name (i := 10) sc_best_by_stretches.nd rfl (by first | exact Or.inl rfl | exact Or.inr rfl)) (pgs_cons (pg_name (i := 14) sc_best_by_stretches.nd rfl (by first | exact Or.inl rfl | exact Or.inr rfl)) pgs_nil))))) (fun _ _ _ _ _ => pts_nil) (fun _ _ _ _ _ => (pe_tup (pa_cons (pv 13) (pa_cons (pv 10) pa_nil))))) pa_nil)))
(pss_one (ps_expr (k_bm (K := K) rfl PySem.F.plainAttrs_list PySem.F.slot_list_append PySem.F.type_list_append mt_append (pe_ix (k_ix (K := K) rfl) (pv 2) (pv 4) (fun _ _ => rfl)) (pa_cons (pe_ix (k_ix (K := K) rfl) (pe_lc (own := [("one", 15)]) (g := gName 15) rfl sc_best_by_stretches.nd (k_seq (K := K) rfl (pv 6)) (blkOk_by (N := N_best_by_stretches) (sc := defScope s_best_by_stretches) (by decide +kernel)) (fun _ _ _ _ _ => (pg_name (i := 15) sc_best_by_stretches.nd rfl (by first | exact Or.inl rfl | exact Or.inr rfl))) (fun _ _ _ _ _ => (pts_one (pt_cmpR (k_eq (K := K) rfl hr) (pe_slice (k_sl (K := K) rfl) (pv 15) po_none (po_some pe_int)) (pv 11) (nomark _)))) (fun _ _ _ _ _ => (pv 15))) pe_int (fun _ _ => rfl)) pa_nil)))))))))))
(pss_one (ps_ret (pv 2))))))
, fun as μ k g Q h hM hR => ?_⟩
  obtain ⟨ns, rfl, rfl, h1, h24, hk⟩ := h
  have hl : (ns.map PyData.int).length = ns.length := List.length_map ..
  repeat (walk_at "j")
  -- found = [[(0, (0,), first)] for first in range(many)]
  refine ev_lc (iv_range0 ?_)
  repeat (walk_at "j")
  refine ⟨by omega, by omega, fun i acc μ => ∃ qs : List Addr, qs.length = i ∧ acc = qs.map .mt ∧ μ = (cellsOf qs ((List.range i).map fun f => [encC ⟨0, [0], .lf f⟩])).reverse, ⟨[], rfl, rfl, rfl⟩, fun i x acc μ hx ⟨qs, e1, e2, e3⟩ => ?_, fun acc μ ⟨qs, e1, e2, e3⟩ => ?_⟩
  · obtain ⟨hi, rfl⟩ := nats_get hx
    subst e2 e3
    refine ⟨trivial, by rw [List.length_map, e1]; exact Nat.lt_of_le_of_lt (Nat.le_trans (Nat.le_of_lt (by simpa using hi)) h24) (by decide), tg_name (by decide) ?_⟩
    refine evt_yes ⟨fun _ => ?_, fun z => nomatch z⟩
    refine ev_lstM ?_
    repeat (walk_at "j")
    refine ⟨by show (1 : Nat) ≤ sizeLine; decide, fun q => ⟨qs ++ [q], by rw [List.length_append, e1]; rfl, by rw [List.map_append]; rfl, ?_⟩⟩
    rw [List.range_succ, List.map_append, List.map_cons, List.map_nil, cells_snoc (by simp [e1]), List.reverse_append]
    rfl
  refine ⟨trivial, .c fun p => ?_⟩
  rw [nats_len] at e1 e3
  have en : (((ns.map PyData.int).length : Int)).toNat = ns.length := by rw [hl]; rfl
  rw [en] at e1 e3
  subst e2
  -- for length in range(2, many + 1)
  with_reducible refine nxt_seq ?_
  refine go_seq ?_
  refine (go_permF (ρ' := rB ns (ns.map PyData.int).length p) (μ' := (p, .lst (qs.map .mt)) :: cellsOf qs (rowsJ ns 2 0)) ?_ (by walk_at "fg") (by rw [e3, rowsJ_one]; exact (List.reverse_perm _).symm.cons _))
  clear e3
  generalize hm : (ns.map PyData.int).length = n at *
  repeat (walk_at "j")
  refine go_for [3] (iv_range2 ?_)
  repeat (walk_at "j")
  refine ⟨_, _, rfl, ⟨by omega, by omega, by omega, by omega⟩, fun i ρ' μ' => ρ' = rB ns n p ∧ μ' = (p, Cell.lst (qs.map .mt)) :: cellsOf qs (rowsJ ns (i + 2) 0), ⟨rfl, rfl⟩, fun i x ρ' μ' hx ⟨e1', e2'⟩ => ⟨trivial, fun gh => ?_⟩, fun ρ' μ' ⟨e1', e2'⟩ => ⟨trivial, ?_⟩⟩
  case refine_2 =>
    rw [upto_len] at e2'
    subst e1' e2'
    have eL : (n + 1 - 2 : Int).toNat + 2 = ns.length + 1 := by omega
    rw [eL]
    have er : rowsJ ns (ns.length + 1) 0 = (List.range ns.length).map fun f => rowL ns ns.length f := by
      unfold rowsJ
      exact List.map_congr_left fun f _ => by rw [if_neg (Nat.not_lt_zero f), Nat.add_sub_cancel]
    rw [er]
    with_reducible refine nxt_ret ?_
    have e0 : ∀ z : Store, z = z ++ [] := fun z => (List.append_nil z).symm
    rw [e0 (cellsOf _ _)]
    refine go_retRows hR rfl (by simp [e1]) (by rw [hM]; exact fun a h => h) ?_
    rw [List.map_map]
    exact hk
  obtain ⟨hi, rfl⟩ := upto_at hx
  subst e1' e2'
  refine tg_name (by decide) ?_
  -- for first in range(many - length + 1)
  generalize eg : g.add gh = g1
  refine go_for [4] (iv_range0 ?_)
  repeat (walk_at "j")
  refine ⟨by omega, by omega, fun j ρ' μ' => ρ' = (rB ns n p).set 3 (some (.im (.int (2 + i)))) ∧ μ' = (p, Cell.lst (qs.map .mt)) :: cellsOf qs (rowsJ ns (i + 2) j), ⟨rfl, rfl⟩, fun j x ρ' μ' hx ⟨e1', e2'⟩ => ⟨trivial, fun gh2 => ?_⟩, fun ρ' μ' ⟨e1', e2'⟩ => ⟨trivial, ?_⟩⟩
  case refine_2 =>
    rw [nats_len] at e2'
    subst e1' e2'
    refine nxt_nxw (ρ' := rB ns n p) ⟨rfl, ?_⟩ (by walk_at "fg") (List.Sublist.refl _)
    rw [rowsJ_all ns _ _ (by omega)]
  obtain ⟨hj, rfl⟩ := nats_get hx
  subst e1' e2'
  refine tg_name (by decide) ?_
  generalize eg2 : g1.add gh2 = g2
  clear hx
  have hjL : j + (i + 2) ≤ ns.length := by omega
  repeat (walk_at "j")
  -- weight
  refine rc_sumCut ?_
  have ew : (cutL ns (some (j:Int)) (some ((j:Int) + (2 + (i:Int))))).sum = wsum ns j (i + 2) := by
    rw [show ((j:Int) + (2 + (i:Int))) = ((j + (i + 2) : Nat) : Int) by omega, cut_nat (by omega) (by omega)]
    unfold wsum
    rw [Nat.add_sub_cancel_left]
  rw [ew]
  repeat (walk_at "j")
  refine ev_lstM (eva_nil ⟨by decide, fun a => ?_⟩)
  repeat (walk_at "j")
  -- for part in range(1, length)
  obtain ⟨q, hq⟩ : ∃ q, qs[j]? = some q := ⟨_, List.getElem?_eq_getElem (by omega)⟩
  refine go_for [7] (iv_range2 ?_)
  repeat (walk_at "j")
  refine ⟨_, _, rfl, ⟨by omega, by omega, by omega, by omega⟩, fun m ρ' μ' => ρ' = rC ns n p i j a ∧ μ' = (a, Cell.lst ((((cands ns (i + 2) j).take m).map encC).map .im)) :: (p, Cell.lst (qs.map .mt)) :: cellsOf qs (rowsJ ns (i + 2) j), ⟨rfl, rfl⟩, fun m x ρ' μ' hx ⟨e1', e2'⟩ => ⟨trivial, fun gh3 => ?_⟩, fun ρ' μ' ⟨e1', e2'⟩ => ⟨trivial, ?_⟩⟩
  case refine_1 =>
    obtain ⟨hm', rfl⟩ := upto_at hx
    clear hx
    subst e1' e2'
    refine tg_name (by decide) ?_
    generalize eg3 : g2.add gh3 = g3
    obtain ⟨q2, hq2⟩ : ∃ q, qs[j + (m + 1)]? = some q := ⟨_, List.getElem?_eq_getElem (by omega)⟩
    have r1 := rowsJ_get (ns := ns) (L := i + 2) (j := j) (f := j) (by omega)
    rw [if_neg (Nat.lt_irrefl j)] at r1
    have r2 := rowsJ_get (ns := ns) (L := i + 2) (j := j) (f := j + (m + 1)) (by omega)
    rw [if_neg (by omega)] at r2
    have m1 := List.mem_of_getElem? (cells_get hq r1)
    have m2 := List.mem_of_getElem? (cells_get hq2 r2)
    have y1 := rowL_get (ns := ns) (m := i + 2 - 1) (f := j) (i := m) (by omega) (by omega)
    have y2 := rowL_get (ns := ns) (m := i + 2 - 1) (f := j + (m + 1)) (i := i - m) (by omega) (by omega)
    repeat (walk_at "j")
    refine rv_ixC (List.mem_cons_of_mem _ List.mem_cons_self) (atI_nat (i := j) (by rw [List.getElem?_map, hq]; rfl)) ?_
    repeat (walk_at "j")
    refine rv_ixC (y := .im (tupC (B ns (m + 1) j))) (List.mem_cons_of_mem _ (List.mem_cons_of_mem _ m1)) (atI_at (i := m) (by omega) (by rw [List.getElem?_map, y1]; rfl)) ?_
    repeat (walk_at "j")
    refine rv_ixC (List.mem_cons_of_mem _ List.mem_cons_self) (atI_at (i := j + (m + 1)) (by omega) (by rw [List.getElem?_map, hq2]; rfl)) ?_
    repeat (walk_at "j")
    refine rv_ixC (y := .im (tupC (B ns (i - m + 1) (j + (m + 1))))) (List.mem_cons_of_mem _ (List.mem_cons_of_mem _ m2)) (atI_at (i := i - m) (by omega) (by rw [List.getElem?_map, y2]; rfl)) ?_
    repeat (walk_at "j")
    have b1 := B_len ns (m + 1) j (by omega)
    have b2 := B_len ns (i - m + 1) (j + (m + 1)) (by omega)
    generalize eB1 : B ns (m + 1) j = cl at *
    generalize eB2 : B ns (i - m + 1) (j + (m + 1)) = cr at *
    refine ev_mapX (Gd := free) (fun n : Int => .im (.int n)) (fun n => .int (n + 1)) (cl.ds ++ cr.ds) (fun ki q => iv_tup ?_) trivial ?_ (fun n _ => tg_name (by decide) ?_) ?_
    · repeat (walk_at "j")
      refine rv_catT (by rw [List.length_map, List.length_map, b1, b2]; exact Nat.le_trans (m := 48) (by omega) (by decide)) ⟨_, rfl, ?_⟩
      rw [imInts2]
      exact q
    · rw [List.length_append, b1, b2]
      exact Nat.lt_of_lt_of_le (m := 48) (by omega) (by decide)
    · repeat (walk_at "j")
      exact ⟨rfl, rfl⟩
    refine eva_nil (rc_tuple (.d _) ?_)
    repeat (walk_at "j")
    refine ev_bm ?_
    repeat (walk_at "j")
    refine ⟨.l (.c List.mem_cons_self), ?_⟩
    repeat (walk_at "j")
    refine rm_append 0 rfl (by rw [List.length_map, List.length_map, List.length_take]; exact Nat.lt_of_lt_of_le (m := 48) (by omega) (by decide)) ?_
    refine nxt_nxw (ρ' := rC ns n p i j a) ⟨rfl, ?_⟩ (by walk_at "fg") (List.Sublist.refl _)
    have ec : (cands ns (i + 2) j)[m]? = some (comb (wsum ns j (i + 2)) cl cr) := by
      unfold cands
      rw [List.getElem?_map, List.getElem?_range (by omega), ← eB1, ← eB2]
      show some (comb _ (B ns (m + 1) j) (B ns (i + 2 - 1 - m) (j + m + 1))) = _
      rw [show i + 2 - 1 - m = i - m + 1 by omega, show j + m + 1 = j + (m + 1) by omega]
    have et : (((cands ns (i + 2) j).take (m + 1)).map encC).map SD.im = (((cands ns (i + 2) j).take m).map encC).map SD.im ++ [SD.im (encC (comb (wsum ns j (i + 2)) cl cr))] := by
      rw [List.take_add_one, ec, List.map_append, List.map_append]
      rfl
    rw [et]
    unfold comb
    simp only [encC, List.map_map]
    rfl
  rw [upto_len] at e2'
  have e2' : μ' = (a, Cell.lst ((cands ns (i + 2) j).map fun c => .im (encC c))) :: (p, Cell.lst (qs.map .mt)) :: cellsOf qs (rowsJ ns (i + 2) j) := by
    rw [e2', List.take_of_length_le (by rw [cands_len]; omega), List.map_map]
    rfl
  have hcs : cands ns (i + 2) j ≠ [] := cands_ne ns j (by omega)
  have hbig : (cands ns (i + 2) j).length < sizeLine := by rw [cands_len]; exact Nat.lt_of_lt_of_le (m := 48) (by omega) (by decide)
  have hpick := B_more ns (L := i + 2) j (by omega)
  generalize ecs : cands ns (i + 2) j = cs at *
  subst e1' e2'
  repeat (walk_at "j")
  refine ev_mapX (Gd := fun μ' => (a, Cell.lst (cs.map fun c => .im (encC c))) ∈ μ') (fun c : Cand => .im (encC c)) (fun c => encK (keyC c)) cs (fun ki q => iv_cell ?_) List.mem_cons_self hbig (fun c _ => tg_tup (ds := [_, _, _]) rfl (tgs_cons (tg_name (by decide) (tgs_cons (tg_name (by decide) (tgs_cons (tg_name (by decide) (tgs_nil ?_)))))))) ?_
  · repeat (walk_at "j")
    exact ⟨_, _, rfl, List.mem_cons_self, q⟩
  · repeat (walk_at "j")
    exact ⟨rfl, rfl⟩
  refine eva_nil (rc_minD (by rw [List.length_map]; exact List.length_pos_iff.mpr hcs) (fun d hd => ?_) (fun d hd e he => ?_) ?_)
  · obtain ⟨c, _, rfl⟩ := List.mem_map.mp hd
    exact shK _
  · obtain ⟨c, _, rfl⟩ := List.mem_map.mp hd
    obtain ⟨c', _, rfl⟩ := List.mem_map.mp he
    exact cmpK _ _
  rw [leastD_keys _ hcs]
  repeat (walk_at "j")
  have r0 := rowsJ_get (ns := ns) (L := i + 2) (j := j) (f := j) (by omega)
  rw [if_neg (Nat.lt_irrefl j)] at r0
  have m0 := cells_get hq r0
  refine ev_bm ?_
  repeat (walk_at "j")
  refine rv_ixC (y := .mt q) (List.mem_cons_of_mem _ List.mem_cons_self) (atI_nat (i := j) (by rw [List.getElem?_map, hq]; rfl)) ?_
  refine ⟨.l (.c (List.mem_cons_of_mem _ (List.mem_cons_of_mem _ (List.mem_of_getElem? m0)))), ?_⟩
  repeat (walk_at "j")
  refine ev_filterX (Gd := fun μ' => (a, Cell.lst (cs.map fun c => .im (encC c))) ∈ μ') (fun c : Cand => .im (encC c)) (fun c => decide (keyC c = leastK cs)) encC cs (fun ki q => iv_cell ?_) List.mem_cons_self hbig (fun c _ => tg_name (by decide) ?_) ?_
  · repeat (walk_at "j")
    exact ⟨_, _, rfl, List.mem_cons_self, q⟩
  · refine evt_test ?_
    repeat (walk_at "j")
    refine rs_tup (ds := [_, _, _]) ?_
    repeat (walk_at "j")
    refine rv_eqD (.d (encK (keyC c))) (.d _) (shK _) (shK _) ⟨_, rfl, ?_, fun _ => ?_, rfl⟩
    · rw [eqvK]
    · repeat (walk_at "j")
      exact ⟨rfl, rfl⟩
  repeat (walk_at "j")
  have hf := filt_ne hcs
  refine rv_ixL (d := encC (pick cs)) ?_ ?_
  · unfold pick
    cases e : cs.filter fun x => decide (keyC x = leastK cs) with
    | nil => exact absurd e hf
    | cons x r => exact atI_at (i := 0) rfl rfl
  repeat (walk_at "j")
  refine rm_append (j + 2) m0 ?_ ?_
  · rw [List.length_map]
    unfold rowL
    rw [List.length_map, List.length_range]
    exact Nat.lt_of_lt_of_le (m := 48) (by omega) (by decide)
  refine nxt_nxw (ρ' := (rB ns n p).set 3 (some (.im (.int (2 + i))))) (μ' := (p, Cell.lst (qs.map .mt)) :: (cellsOf qs (rowsJ ns (i + 2) j)).set j (q, .lst ((rowL ns (i + 2 - 1) j).map .im ++ [SD.im (encC (pick cs))]))) ⟨rfl, ?_⟩ (by walk_at "fg") (List.Sublist.cons _ (List.Sublist.refl _))
  rw [← rowsJ_set (by omega) hjL, ← cells_set hq, hpick, List.map_append]
  rfl
end
end J
namespace J
open PySem PySem.Spec PyProof.Rows L2
local macro_rules | `(tactic| walk_at "side") => `(tactic| first
  | (show (0 : Int) < _; omega) | omega | exact ⟨by omega, by omega⟩ | exact Or.inl ⟨by omega, by omega⟩ | exact Or.inr ⟨by omega, by omega⟩ | exact ⟨by decide, by decide, by decide⟩ | (refine ⟨?_, ?_, ?_, ?_⟩ <;> omega) | (show _ ≤ sizeLine; simp only [List.length_cons, List.length_nil]; decide) | decide | assumption)
local macro_rules | `(tactic| walk_at "mem") => `(tactic| first | exact List.mem_cons_self | exact List.mem_cons_of_mem _ List.mem_cons_self | exact List.mem_cons_of_mem _ (List.mem_cons_of_mem _ List.mem_cons_self))
local macro_rules | `(tactic| walk_at "j") => `(tactic| first
  | with_reducible refine ev_op ?_ | with_reducible refine ev_un ?_ | with_reducible refine ev_int ?_ | with_reducible refine ev_bl ?_ | with_reducible refine ev_str ?_ | with_reducible refine ev_non ?_ | with_reducible refine ev_cb ?_ | with_reducible refine eva_nil ?_ | with_reducible refine eva_cons ?_
  | ((with_reducible refine' ev_var ?h1 ?_); (case h1 => rfl))
  | with_reducible refine rv_plus ?_ | with_reducible refine rv_lt ?_ | with_reducible refine rv_eqI ?_ | with_reducible refine rv_neI ?_
  | ((with_reducible refine' rv_times ?h1 ?_); (case h1 => walk_at "side"))
  | with_reducible refine rv_i0 ?_ | with_reducible refine rv_b0 ?_ | ((with_reducible refine' rv_i ?h1 ?_); (case h1 => walk_at "side")) | with_reducible refine ru_i ?_
  | ((with_reducible refine' rv_ixT ?h1 ?_); (case h1 => rfl)) | ((with_reducible refine' rv_ixL ?h1 ?_); (case h1 => rfl)) | ((with_reducible refine' rv_ixC ?h1 ?h2 ?_); (case h1 => walk_at "mem"); (case h2 => rfl))
  | with_reducible refine ev_sl ?_ | with_reducible refine evo_none ?_ | with_reducible refine evo_some ?_ | with_reducible refine rs_tup ?_ | with_reducible refine rs_listD ?_
  | with_reducible refine rc_lenT ?_ | with_reducible refine rc_lenL ?_ | ((with_reducible refine' rc_lenC ?h1 ?_); (case h1 => walk_at "mem")) | with_reducible refine rc_abs ?_ | with_reducible refine rc_min2 ?_ | with_reducible refine rc_max2 ?_
  | with_reducible refine ev_tup1 ?_ | with_reducible refine ev_tup2 ?_ | with_reducible refine ev_tup3 ?_
  | with_reducible refine evt_not ?_ | with_reducible refine evt_test ?_
  | ((with_reducible refine' rs_setL 0 ?h1 ?h2 ?_); (case h1 => rfl); (case h2 => rfl))
  | with_reducible refine ⟨_, rfl, ?_⟩
  | with_reducible refine ⟨_, _, rfl, rfl, ?_⟩ | with_reducible refine ⟨_, _, _, rfl, rfl, rfl, ?_⟩
  | with_reducible refine go_if ?_
  | with_reducible refine go_seq ?_ | with_reducible refine go_asg ?_ | with_reducible refine go_sub ?_ | with_reducible refine nxt_seq ?_ | with_reducible refine nxt_ret ?_ | with_reducible refine nxt_asg ?_ | with_reducible refine nxt_if ?_ | with_reducible refine nxt_for ?_ | with_reducible refine nxt_while ?_ | with_reducible refine nxt_drop ?_ | with_reducible refine nxt_cut ?_ | with_reducible refine nxt_aug ?_ | with_reducible refine nxt_next ?_ | with_reducible refine go_next ?_ | with_reducible refine go_drop ?_ | (with_reducible refine go_ret (by assumption) ?_))
abbrev s_least_cost : Stmt := topS 2
abbrev N_least_cost : List Str := ["heaps"]
theorem sc_least_cost : FnScope N_least_cost ["heaps"] (defScope s_least_cost) := ⟨rfl, rfl, rfl, by decide +kernel, rfl, by decide +kernel, by decide +kernel⟩
-- 0:heaps
abbrev s_ring_cost : Stmt := topS 4
abbrev N_ring_cost : List Str := ["heaps", "costs", "place"]
theorem sc_ring_cost : FnScope N_ring_cost ["heaps"] (defScope s_ring_cost) := ⟨rfl, rfl, rfl, by decide +kernel, rfl, by decide +kernel, by decide +kernel⟩
-- 0:heaps 1:costs 2:place
abbrev s_any_cost : Stmt := topS 6
abbrev N_any_cost : List Str := ["heaps", "left", "cost", "both"]
theorem sc_any_cost : FnScope N_any_cost ["heaps"] (defScope s_any_cost) := ⟨rfl, rfl, rfl, by decide +kernel, rfl, by decide +kernel, by decide +kernel⟩
-- 0:heaps 1:left 2:cost 3:both
def preLeast (as : List SD) (μ : Store) (k : SD → Store → Prop) : Prop := ∃ ns : List Int, as = [.im (encH ns)] ∧ μ = [] ∧ 1 ≤ ns.length ∧ ns.length ≤ 24 ∧ k (.im (.int (C ns))) []
def preRing (as : List SD) (μ : Store) (k : SD → Store → Prop) : Prop := ∃ ns : List Int, as = [.im (encH ns)] ∧ μ = [] ∧ 1 ≤ ns.length ∧ ns.length ≤ 24 ∧ ∀ c p, RingIs ns c p → k (.im (.tuple [.int c, .int p])) []
section
variable {P : Program} {w : World} {K : PySem.W.Frag} {mg : Str → Option Value} {base : Heap} {f : Addr} {fd : FuncData}
theorem ok_least_cost (T : Txt mg) (D_best_by_stretches : Def P w K mg base "best_by_stretches" ["heaps"] 1 (SpR preBest)) (F : Fun K "least_cost" "least_cost" s_least_cost f fd) : FnOk P w K mg base CX0 2 f fd ["heaps"] (SpR preLeast) := by
  refine fn_ok F sc_least_cost (fun as μ k h => by obtain ⟨ns, rfl, _⟩ := h; rfl) fun cdv A outer s H E hr => ⟨_,
(pss_one (ps_ret (pe_ix (k_ix (K := K) rfl) (pe_ix (k_ix (K := K) rfl) (pe_ix (k_ix (K := K) rfl) (pe_callJ D_best_by_stretches hr (pa_cons (pv 0) pa_nil)) pe_int (fun _ _ => rfl)) (pe_un un_neg pe_int) (fun _ _ => rfl)) pe_int (fun _ _ => rfl))))
, fun as μ k g Q h hM hR => ?_⟩
  obtain ⟨ns, rfl, rfl, h1, h24, hk⟩ := h
  repeat (walk_at "j")
  refine ev_callP ?_
  repeat (walk_at "j")
  refine ⟨ns, rfl, rfl, h1, h24, ?_⟩
  have r0 : ((List.range ns.length).map fun f => PyData.list (rowL ns ns.length f))[0]? = some (.list (rowL ns ns.length 0)) := by
    rw [List.getElem?_map, List.getElem?_range (by omega)]
    rfl
  show Ev _ _ _ _
  repeat (walk_at "j")
  refine rv_ixL (atI_at (i := 0) rfl r0) ?_
  repeat (walk_at "j")
  have hl : (rowL ns ns.length 0).length = ns.length := by unfold rowL; simp
  refine rv_ixL (d := encC (B ns ns.length 0)) (atI_last (by rw [hl, rowL_get (by omega) (by omega), show ns.length - 1 + 1 = ns.length by omega])) ?_
  repeat (walk_at "j")
  refine rv_ixT (ds := [_, _, _]) (atI_at (i := 0) rfl rfl) hk
theorem ok_ring_cost (T : Txt mg) (D_least_cost : Def P w K mg base "least_cost" ["heaps"] 2 (SpR preLeast)) (F : Fun K "ring_cost" "ring_cost" s_ring_cost f fd) : FnOk P w K mg base CX0 3 f fd ["heaps"] (SpR preRing) := by
  refine fn_ok F sc_ring_cost (fun as μ k h => by obtain ⟨ns, rfl, _⟩ := h; rfl) fun cdv A outer s H E hr => ⟨_,
(pss_cons (ps_setLc (i := 1) (own := [("place", 2)]) (g := gName 2) (tt := tYes) rfl sc_ring_cost.nd rfl rfl (sw_true rfl rfl rfl (by decide +kernel)) (pi_range1 (by rfl) T.range (pa_cons (pe_callB (k_len (K := K) rfl) (by rfl) T.len bt_len (pa_cons (pv 0) pa_nil)) pa_nil)) (blkOk_by (N := N_ring_cost) (sc := defScope s_ring_cost) (by decide +kernel)) (fun _ _ _ _ _ => (pg_name (i := 2) sc_ring_cost.nd rfl (by first | exact Or.inl rfl | exact Or.inr rfl))) (fun _ _ _ _ _ => pts_nil) (fun _ _ _ _ _ => (pe_callJ D_least_cost hr (pa_cons (pe_op (k_plus (K := K) rfl) (pe_slice (k_sl (K := K) rfl) (pv 0) (po_some (pv 2)) po_none) (pe_slice (k_sl (K := K) rfl) (pv 0) po_none (po_some (pv 2)))) pa_nil))))
(pss_one (ps_ret (pe_tup (pa_cons (pe_callB (k_min (K := K) rfl rfl hr) (by rfl) T.min bt_min (pa_cons (pv 1) pa_nil)) (pa_cons (k_bm (K := K) rfl PySem.F.plainAttrs_list PySem.F.slot_list_index PySem.F.type_list_index (k_index (K := K) rfl) (pv 1) (pa_cons (pe_callB (k_min (K := K) rfl rfl hr) (by rfl) T.min bt_min (pa_cons (pv 1) pa_nil)) pa_nil)) pa_nil))))))
, fun as μ k g Q h hM hR => ?_⟩
  obtain ⟨ns, rfl, rfl, h1, h24, hk⟩ := h
  have hl : (ns.map PyData.int).length = ns.length := List.length_map ..
  repeat (walk_at "j")
  refine ev_mapX (Gd := free) (fun i : Nat => .im (.int i)) (fun i => .int (C (rot ns i))) (List.range ns.length) (fun ki q => iv_range0 ?_) trivial (by rw [List.length_range]; exact Nat.lt_of_le_of_lt h24 (by decide)) (fun i hi => tg_name (by decide) ?_) ?_
  · repeat (walk_at "j")
    refine ⟨by omega, by omega, ?_⟩
    rw [show ((ns.map PyData.int).length : Int).toNat = ns.length by omega]
    exact q
  · have hi := List.mem_range.mp hi
    refine ev_callP ?_
    repeat (walk_at "j")
    rw [cut_from (by rw [hl]; omega), cut_upto (by rw [hl]; omega)]
    refine rv_catT (by rw [List.length_drop, List.length_take, hl]; exact Nat.le_trans (m := 48) (by omega) (by decide)) (eva_nil ⟨rot ns i, ?_, rfl, by rw [rot_len]; exact h1, by rw [rot_len]; exact h24, rfl, rfl⟩)
    unfold encH rot
    rw [List.map_append, List.map_drop, List.map_take]
  have e : ((List.range ns.length).map fun i => PyData.int (C (rot ns i))) = (ringCs ns).map .int := List.map_map.symm
  rw [e]
  have hne : ringCs ns ≠ [] := fun z => by
    have := ringCs_len ns
    rw [z] at this
    simp at this
    omega
  repeat (walk_at "j")
  refine rc_minI hne fun m hm hle => ?_
  refine ev_bm ?_
  repeat (walk_at "j")
  refine ⟨.l (.d _), ?_⟩
  repeat (walk_at "j")
  refine rc_minI hne fun m' hm' hle' => ?_
  have em : m' = m := by
    have := hle m' hm'
    have := hle' m hm
    omega
  subst em
  obtain ⟨j, hj, hf⟩ := first_at hm
  refine eva_nil (rm_index (by rw [ints_ims]; exact .d _) hj hf ⟨_, _, rfl, rfl, hk _ _ (ring_of hj hf hle)⟩)
def preAny (as : List SD) (μ : Store) (k : SD → Store → Prop) : Prop := ∃ ns : List Int, as = [.im (encH ns)] ∧ μ = [] ∧ 1 ≤ ns.length ∧ ns.length ≤ 24 ∧ ∀ a, Low ns a → k (.im (.int a)) []
theorem ok_any_cost (T : Txt mg) (F : Fun K "any_cost" "any_cost" s_any_cost f fd) : FnOk P w K mg base CX0 1 f fd ["heaps"] (SpR preAny) := by
  refine fn_ok F sc_any_cost (fun as μ k h => by obtain ⟨ns, rfl, _⟩ := h; rfl) fun cdv A outer s H E hr => ⟨_,
(pss_cons (ps_set (i := 1) sc_any_cost.nd rfl (by first | exact Or.inl rfl | exact Or.inr rfl) (pe_callB (k_sorted (K := K) rfl) (by rfl) T.sorted bt_sorted (pa_cons (pv 0) pa_nil)))
(pss_cons (ps_set (i := 2) sc_any_cost.nd rfl (by first | exact Or.inl rfl | exact Or.inr rfl) pe_int)
(pss_cons (ps_while PassesOwn.never (pt_cmpR op_gt (pe_callB (k_len (K := K) rfl) (by rfl) T.len bt_len (pa_cons (pv 1) pa_nil)) pe_int (nomark _))
(pss_cons (ps_set (i := 3) sc_any_cost.nd rfl (by first | exact Or.inl rfl | exact Or.inr rfl) (pe_op (k_plus (K := K) rfl) (k_bm (K := K) rfl PySem.F.plainAttrs_list PySem.F.slot_list_pop PySem.F.type_list_pop mt_popAt (pv 1) (pa_cons pe_int pa_nil)) (k_bm (K := K) rfl PySem.F.plainAttrs_list PySem.F.slot_list_pop PySem.F.type_list_pop mt_popAt (pv 1) (pa_cons pe_int pa_nil))))
(pss_cons (ps_set (i := 2) sc_any_cost.nd rfl (by first | exact Or.inl rfl | exact Or.inr rfl) (pe_op (k_plus (K := K) rfl) (pv 2) (pv 3)))
(pss_one (ps_set (i := 1) sc_any_cost.nd rfl (by first | exact Or.inl rfl | exact Or.inr rfl) (pe_callB (k_sorted (K := K) rfl) (by rfl) T.sorted bt_sorted (pa_cons (pe_op (k_plus (K := K) rfl) (pv 1) (pe_lst (pa_cons (pv 3) pa_nil))) pa_nil)))))))
(pss_one (ps_ret (pv 2))))))
, fun as μ k g Q h hM hR => ?_⟩
  obtain ⟨ns, rfl, rfl, h1, h24, hk⟩ := h
  replace hR := hR.drop
  repeat (walk_at "j")
  refine rc_sorted (qv_tupI ns) fun L hL hs => .c fun p => ?_
  repeat (walk_at "j")
  refine go_while (fun m ρ' μ' => ∃ (p : Addr) (L : List Int) (c : Int) (x3 : Option SD), m = L.length ∧ 1 ≤ L.length ∧ L.length ≤ 24 ∧ L.Pairwise (· ≤ ·) ∧ ρ' = [some (.im (encH ns)), some (.mt p), some (.im (.int c)), x3] ∧ μ' = [(p, .lst (numS L))] ∧ ∀ v, Low L v → Low ns (c + v)) L.length
    ⟨p, L, 0, none, rfl, by rw [hL.length_eq]; exact h1, by rw [hL.length_eq]; exact h24, hs, rfl, rfl, fun v hv => by rw [Int.zero_add]; exact low_perm hL hv⟩ ?_
  clear hL hs p L
  rintro m ρ' μ' ⟨p, L, c, x3, rfl, l1, l24, hs, rfl, rfl, hv⟩
  have hn : (numS L).length = L.length := by unfold numS; simp
  repeat (walk_at "j")
  refine ⟨fun hb => ?_, fun hb => ?_⟩
  · have hb := of_decide_eq_true hb
    match L, hb, l24, hs, hv, hn with
    | [], hb, _, _, _, _ => simp [numS] at hb
    | [_], hb, _, _, _, _ => simp [numS] at hb
    | x :: y :: rest, _, l24, hs, hv, _ =>
    repeat (walk_at "j")
    refine ev_bm ?_
    repeat (walk_at "j")
    refine ⟨.l (.c List.mem_cons_self), ?_⟩
    repeat (walk_at "j")
    refine rm_pop0 0 rfl ?_
    refine ev_bm ?_
    repeat (walk_at "j")
    refine ⟨.l (.c List.mem_cons_self), ?_⟩
    repeat (walk_at "j")
    refine rm_pop0 0 rfl ?_
    repeat (walk_at "j")
    refine ev_lst1 ?_
    repeat (walk_at "j")
    have e1 : (numS rest).length + [PyData.int (x + y)].length ≤ sizeLine := by
      have : (numS rest).length = rest.length := by unfold numS; simp
      rw [this]
      simp only [List.length_cons, List.length_nil] at l24 ⊢
      exact Nat.le_trans (m := 48) (by omega) (by decide)
    have e2 : (numS rest) ++ [PyData.int (x + y)].map .im = ((rest ++ [x + y]).map PyData.int).map .im := by
      unfold numS
      simp
    refine rv_cat (.c (xs := numS rest) List.mem_cons_self) (.d _) (by simpa using e1) ?_
    rw [e2]
    refine .d ?_
    refine eva_nil (rc_sorted (qv_lstI _) fun L' hL' hs' => .c fun p' => ?_)
    refine nxt_nxw (ρ' := [some (.im (encH ns)), some (.mt p'), some (.im (.int (c + (x + y)))), none]) (μ' := [(p', .lst (numS L'))]) ?_ (by repeat (first | exact Fg.nil | refine Fg.keep ?_ | refine Fg.drop ?_)) (List.Sublist.cons₂ _ (List.nil_sublist _))
    have hlen := hL'.length_eq
    simp only [List.length_append, List.length_cons, List.length_nil] at hlen l24
    refine ⟨L'.length, by simp only [List.length_cons]; omega, p', L', c + (x + y), none, rfl, by omega, by omega, hs', rfl, rfl, fun v hv' => ?_⟩
    rw [Int.add_assoc]
    refine hv _ (low_step hs ?_)
    refine low_perm (hL'.trans ?_) hv'
    exact List.perm_append_comm
  · have hb := of_decide_eq_false hb
    obtain ⟨x, rfl⟩ := List.length_eq_one_iff.mp (show L.length = 1 by omega)
    repeat (walk_at "j")
    exact ⟨[], List.nil_sublist _, hk _ (by have := hv 0 (low_one x); rwa [Int.add_zero] at this)⟩
end
end J
namespace J
open PySem PySem.Spec PyProof.Rows L2
local macro_rules | `(tactic| walk_at "side") => `(tactic| first
  | (show (0 : Int) < _; omega) | omega | exact ⟨by omega, by omega⟩ | exact Or.inl ⟨by omega, by omega⟩ | exact Or.inr ⟨by omega, by omega⟩ | exact ⟨by decide, by decide, by decide⟩ | (refine ⟨?_, ?_, ?_, ?_⟩ <;> omega) | (show _ ≤ sizeLine; simp only [List.length_cons, List.length_nil]; decide) | decide | assumption)
local macro_rules | `(tactic| walk_at "mem") => `(tactic| first | exact List.mem_cons_self | exact List.mem_cons_of_mem _ List.mem_cons_self | exact List.mem_cons_of_mem _ (List.mem_cons_of_mem _ List.mem_cons_self))
local macro_rules | `(tactic| walk_at "j") => `(tactic| first
  | with_reducible refine ev_op ?_ | with_reducible refine ev_un ?_ | with_reducible refine ev_int ?_ | with_reducible refine ev_bl ?_ | with_reducible refine ev_str ?_ | with_reducible refine ev_non ?_ | with_reducible refine ev_cb ?_ | with_reducible refine eva_nil ?_ | with_reducible refine eva_cons ?_
  | ((with_reducible refine' ev_var ?h1 ?_); (case h1 => rfl))
  | with_reducible refine rv_plus ?_ | with_reducible refine rv_lt ?_ | with_reducible refine rv_eqI ?_ | with_reducible refine rv_neI ?_
  | ((with_reducible refine' rv_times ?h1 ?_); (case h1 => walk_at "side"))
  | with_reducible refine rv_i0 ?_ | with_reducible refine rv_b0 ?_ | ((with_reducible refine' rv_i ?h1 ?_); (case h1 => walk_at "side")) | with_reducible refine ru_i ?_
  | ((with_reducible refine' rv_ixT ?h1 ?_); (case h1 => rfl)) | ((with_reducible refine' rv_ixL ?h1 ?_); (case h1 => rfl)) | ((with_reducible refine' rv_ixC ?h1 ?h2 ?_); (case h1 => walk_at "mem"); (case h2 => rfl))
  | with_reducible refine ev_sl ?_ | with_reducible refine evo_none ?_ | with_reducible refine evo_some ?_ | with_reducible refine rs_tup ?_ | with_reducible refine rs_listD ?_
  | with_reducible refine rc_lenT ?_ | with_reducible refine rc_lenL ?_ | ((with_reducible refine' rc_lenC ?h1 ?_); (case h1 => walk_at "mem")) | with_reducible refine rc_abs ?_ | with_reducible refine rc_min2 ?_ | with_reducible refine rc_max2 ?_
  | with_reducible refine ev_tup1 ?_ | with_reducible refine ev_tup2 ?_ | with_reducible refine ev_tup3 ?_
  | with_reducible refine evt_not ?_ | with_reducible refine evt_test ?_
  | ((with_reducible refine' rs_setL 0 ?h1 ?h2 ?_); (case h1 => rfl); (case h2 => rfl))
  | with_reducible refine ⟨_, rfl, ?_⟩
  | with_reducible refine ⟨_, _, rfl, rfl, ?_⟩ | with_reducible refine ⟨_, _, _, rfl, rfl, rfl, ?_⟩
  | with_reducible refine go_if ?_
  | with_reducible refine go_seq ?_ | with_reducible refine go_asg ?_ | with_reducible refine go_sub ?_ | with_reducible refine nxt_seq ?_ | with_reducible refine nxt_ret ?_ | with_reducible refine nxt_asg ?_ | with_reducible refine nxt_if ?_ | with_reducible refine nxt_for ?_ | with_reducible refine nxt_while ?_ | with_reducible refine nxt_drop ?_ | with_reducible refine nxt_cut ?_ | with_reducible refine nxt_aug ?_ | with_reducible refine nxt_next ?_ | with_reducible refine go_next ?_ | with_reducible refine go_drop ?_ | (with_reducible refine go_ret (by assumption) ?_))
abbrev s__law_deck : Stmt := topS 8
abbrev N__law_deck : List Str := ["script", "great", "mixed", "cell"]
theorem sc__law_deck : FnScope N__law_deck ["script"] (defScope s__law_deck) := ⟨rfl, rfl, rfl, by decide +kernel, rfl, by decide +kernel, by decide +kernel⟩
-- 0:script 1:great 2:mixed 3:cell
def preDeck (K0 : PySem.W.Frag) (as : List SD) (μ : Store) (k : SD → Store → Prop) : Prop := ∃ ns P, as = [.sc ns P] ∧ μ = [] ∧ (∀ a H, P a → SqL K0 H a (ns.map V.int)) ∧ (∀ z ∈ ns, Builtin.Int.intBits z ≤ 1048576) ∧ ns.length ≤ 63 ∧ ∀ a g m, 0 ≤ g → k (.mt a) [deckC a g m 0]
section
variable {P : Program} {w : World} {K : PySem.W.Frag} {mg : Str → Option Value} {base : Heap} {f : Addr} {fd : FuncData}
theorem ok__law_deck (T : Txt mg) (F : Fun K "_law_deck" "_law_deck" s__law_deck f fd) : FnOk P w K mg base CX0 1 f fd ["script"] (SpR (preDeck K)) := by
  refine fn_ok F sc__law_deck (fun as μ k h => by obtain ⟨ns, P, rfl, _⟩ := h; rfl) fun cdv A outer s H E hr => ⟨_,
(pss_cons (ps_set (i := 1) sc__law_deck.nd rfl (by first | exact Or.inl rfl | exact Or.inr rfl) pe_int)
(pss_cons (ps_set (i := 2) sc__law_deck.nd rfl (by first | exact Or.inl rfl | exact Or.inr rfl) (pe_op (k_plus (K := K) rfl) (pe_op op_times pe_int (pe_callB (k_len (K := K) rfl) (by rfl) T.len bt_len (pa_cons (pv 0) pa_nil))) pe_int))
(pss_cons (ps_for PassesOwn.never rfl (k_seq (K := K) rfl (pe_slice (k_sl (K := K) rfl) (pv 0) po_none (po_some pe_int))) (pg_name (i := 3) sc__law_deck.nd rfl (by first | exact Or.inl rfl | exact Or.inr rfl))
(pss_one (ps_if (pt_cmpR op_ge (pe_callB cr_abs (by rfl) T.abs bt_abs (pa_cons (pv 3) pa_nil)) (pe_op op_pow pe_int pe_int) (nomark _))
(pss_one (ps_set (i := 1) sc__law_deck.nd rfl (by first | exact Or.inl rfl | exact Or.inr rfl) (pe_op (k_plus (K := K) rfl) (pe_op op_shlW (pv 1) pe_int) (pe_callB cr_abs (by rfl) T.abs bt_abs (pa_cons (pv 3) pa_nil)))))
(pss_one (ps_set (i := 2) sc__law_deck.nd rfl (by first | exact Or.inl rfl | exact Or.inr rfl) (pe_op op_mod (pe_op (k_plus (K := K) rfl) (pe_op op_times (pv 2) pe_int) (pv 3)) pe_int))))))
(pss_one (ps_ret (pe_lst (pa_cons (pv 1) (pa_cons (pv 2) (pa_cons pe_int pa_nil)))))))))
, fun as μ k g Q h hM hR => ?_⟩
  obtain ⟨ns, P, rfl, rfl, hP, hb, hl, hk⟩ := h
  obtain ⟨M, hM0⟩ : ∃ M : Nat, M = 1048576 := ⟨_, rfl⟩
  rw [← hM0] at hb
  repeat (walk_at "j")
  refine rc_lenSc hP ?_
  repeat (walk_at "j")
  refine go_for [3] (iv_list ?_)
  repeat (walk_at "j")
  refine rs_sc hP ?_
  rw [← imInts]
  refine .d ⟨_, rfl, ?_⟩
  have hc : ∀ z ∈ cutL ns none (some 63), z ∈ ns := fun z hz => List.mem_of_mem_drop (List.mem_of_mem_take hz)
  have hcl : (cutL ns none (some 63)).length ≤ 63 := by
    unfold cutL
    rw [List.length_take, List.length_drop]
    omega
  generalize cutL ns none (some 63) = cs at hc hcl
  refine ⟨fun i ρ' μ' => ∃ g m x3, ρ' = [some (.sc ns P), some (.im (.int g)), some (.im (.int m)), x3] ∧ μ' = [] ∧ 0 ≤ g ∧ Builtin.Int.intBits g ≤ M + 207 * i, ⟨0, _, none, rfl, rfl, by decide, Nat.zero_le _⟩, fun i x ρ' μ' hx ⟨g1, m1, x3, e1, e2, e3, e4⟩ => ⟨trivial, fun gh => ?_⟩, fun ρ' μ' ⟨g1, m1, x3, e1, e2, e3, e4⟩ => ⟨trivial, ?_⟩⟩
  · have hx0 : ((cs.map PyData.int).map SD.im)[i]? = some x := hx
    rw [imInts, List.getElem?_map] at hx0
    have hi : i < cs.length := by
      have := (List.getElem?_eq_some_iff.mp hx).1
      simpa using this
    rw [List.getElem?_eq_getElem hi] at hx0
    cases hx0
    have hz := hb _ (hc _ (List.getElem_mem hi))
    generalize cs[i] = z at hz
    subst e1 e2
    refine tg_name (by decide) ?_
    repeat (walk_at "j")
    have habs : Builtin.Int.intBits (if z < 0 then -z else z) ≤ M := by
      split
      · exact PySem.intBits_neg_le hz
      · exact hz
    refine ⟨fun _ => ?_, fun _ => ?_⟩
    · repeat (walk_at "j")
      refine nxt_nxw ?_ (Fg.refl _) (List.Sublist.refl _)
      refine ⟨_, m1, _, rfl, rfl, ?_, ?_⟩
      · have : 0 ≤ g1 * 2 ^ (205 : Int).toNat := Int.mul_nonneg e3 (by decide)
        split <;> omega
      · have h1 : Builtin.Int.intBits ((2 : Int) ^ (205 : Int).toNat) ≤ 206 := by decide +kernel
        have h2 := PySem.intBits_add_le (PySem.intBits_mul_le e4 h1) habs
        rw [Nat.max_eq_left (by omega)] at h2
        omega
    · repeat (walk_at "j")
      refine nxt_nxw ?_ (Fg.refl _) (List.Sublist.refl _)
      exact ⟨g1, _, _, rfl, rfl, e3, by omega⟩
  · subst e1 e2
    repeat (walk_at "j")
    refine ev_lstM ?_
    repeat (walk_at "j")
    exact ⟨by show (3 : Nat) ≤ sizeLine; decide, fun a => hk a _ _ e3⟩
end
end J
namespace J
open PySem PySem.Spec PyProof.Rows L2
local macro_rules | `(tactic| walk_at "side") => `(tactic| first
  | (show (0 : Int) < _; omega) | omega | exact ⟨by omega, by omega⟩ | exact Or.inl ⟨by omega, by omega⟩ | exact Or.inr ⟨by omega, by omega⟩ | exact ⟨by decide, by decide, by decide⟩ | (refine ⟨?_, ?_, ?_, ?_⟩ <;> omega) | (show _ ≤ sizeLine; simp only [List.length_cons, List.length_nil]; decide) | decide | assumption)
local macro_rules | `(tactic| walk_at "mem") => `(tactic| first | exact List.mem_cons_self | exact List.mem_cons_of_mem _ List.mem_cons_self | exact List.mem_cons_of_mem _ (List.mem_cons_of_mem _ List.mem_cons_self))
local macro_rules | `(tactic| walk_at "j") => `(tactic| first
  | with_reducible refine ev_op ?_ | with_reducible refine ev_un ?_ | with_reducible refine ev_int ?_ | with_reducible refine ev_bl ?_ | with_reducible refine ev_str ?_ | with_reducible refine ev_non ?_ | with_reducible refine ev_cb ?_ | with_reducible refine eva_nil ?_ | with_reducible refine eva_cons ?_
  | ((with_reducible refine' ev_var ?h1 ?_); (case h1 => rfl))
  | with_reducible refine rv_plus ?_ | with_reducible refine rv_lt ?_ | with_reducible refine rv_eqI ?_ | with_reducible refine rv_neI ?_
  | ((with_reducible refine' rv_times ?h1 ?_); (case h1 => walk_at "side"))
  | with_reducible refine rv_i0 ?_ | with_reducible refine rv_b0 ?_ | ((with_reducible refine' rv_i ?h1 ?_); (case h1 => walk_at "side")) | with_reducible refine ru_i ?_
  | ((with_reducible refine' rv_ixT ?h1 ?_); (case h1 => rfl)) | ((with_reducible refine' rv_ixL ?h1 ?_); (case h1 => rfl)) | ((with_reducible refine' rv_ixC ?h1 ?h2 ?_); (case h1 => walk_at "mem"); (case h2 => rfl))
  | with_reducible refine ev_sl ?_ | with_reducible refine evo_none ?_ | with_reducible refine evo_some ?_ | with_reducible refine rs_tup ?_ | with_reducible refine rs_listD ?_
  | with_reducible refine rc_lenT ?_ | with_reducible refine rc_lenL ?_ | ((with_reducible refine' rc_lenC ?h1 ?_); (case h1 => walk_at "mem")) | with_reducible refine rc_abs ?_ | with_reducible refine rc_min2 ?_ | with_reducible refine rc_max2 ?_
  | with_reducible refine ev_tup1 ?_ | with_reducible refine ev_tup2 ?_ | with_reducible refine ev_tup3 ?_
  | with_reducible refine evt_not ?_ | with_reducible refine evt_test ?_
  | ((with_reducible refine' rs_setL 0 ?h1 ?h2 ?_); (case h1 => rfl); (case h2 => rfl))
  | with_reducible refine ⟨_, rfl, ?_⟩
  | with_reducible refine ⟨_, _, rfl, rfl, ?_⟩ | with_reducible refine ⟨_, _, _, rfl, rfl, rfl, ?_⟩
  | with_reducible refine go_if ?_
  | with_reducible refine go_seq ?_ | with_reducible refine go_asg ?_ | with_reducible refine go_sub ?_ | with_reducible refine nxt_seq ?_ | with_reducible refine nxt_ret ?_ | with_reducible refine nxt_asg ?_ | with_reducible refine nxt_if ?_ | with_reducible refine nxt_for ?_ | with_reducible refine nxt_while ?_ | with_reducible refine nxt_drop ?_ | with_reducible refine nxt_cut ?_ | with_reducible refine nxt_aug ?_ | with_reducible refine nxt_next ?_ | with_reducible refine go_next ?_ | with_reducible refine go_drop ?_ | (with_reducible refine go_ret (by assumption) ?_))
abbrev s__law_weights : Stmt := topS 10
abbrev N__law_weights : List Str := ["deck", "many", "way", "far", "found", "at", "k", "one"]
theorem sc__law_weights : FnScope N__law_weights ["deck", "many"] (defScope s__law_weights) := ⟨rfl, rfl, rfl, by decide +kernel, rfl, by decide +kernel, by decide +kernel⟩
-- 0:deck 1:many 2:way 3:far 4:found 5:at 6:k 7:one
def preWeights (as : List SD) (μ : Store) (k : SD → Store → Prop) : Prop := ∃ a g m t, ∃ many : Nat, as = [.mt a, .im (.int many)] ∧ μ = [deckC a g m t] ∧ 0 ≤ g ∧ 0 ≤ t ∧ t ≤ 1000 ∧ 1 ≤ many ∧ many ≤ 24 ∧
  ∀ (ns : List Int) p g' t', ns.length = many → (∀ x ∈ ns, 0 ≤ x) → 0 ≤ g' → t ≤ t' → t' ≤ t + 50 → k (.mt p) [(p, .lst (numS ns)), deckC a g' m t']
section
variable {P : Program} {w : World} {K : PySem.W.Frag} {mg : Str → Option Value} {base : Heap} {f : Addr} {fd : FuncData}
theorem ok__law_weights (T : Txt mg) (D__law_draw : Def P w K mg base "_law_draw" ["deck", "most"] 1 (SpR preDraw)) (F : Fun K "_law_weights" "_law_weights" s__law_weights f fd) : FnOk P w K mg base CX0 2 f fd ["deck", "many"] (SpR preWeights) := by
  refine fn_ok F sc__law_weights (fun as μ k h => by obtain ⟨a, g, m, t, many, rfl, _⟩ := h; rfl) fun cdv A outer s H E hr => ⟨_,
(pss_cons (ps_set (i := 2) sc__law_weights.nd rfl (by first | exact Or.inl rfl | exact Or.inr rfl) (pe_callJ D__law_draw hr (pa_cons (pv 0) (pa_cons pe_int pa_nil))))
(pss_cons (ps_setLc (i := 3) (own := [("k", 6)]) (g := gName 6) (tt := tYes) rfl sc__law_weights.nd rfl rfl (sw_true rfl rfl rfl (by decide +kernel)) (pi_range1 (by rfl) T.range (pa_cons (pv 1) pa_nil)) (blkOk_by (N := N__law_weights) (sc := defScope s__law_weights) (by decide +kernel)) (fun _ _ _ _ _ => (pg_name (i := 6) sc__law_weights.nd rfl (by first | exact Or.inl rfl | exact Or.inr rfl))) (fun _ _ _ _ _ => pts_nil) (fun _ _ _ _ _ => (pe_op (k_plus (K := K) rfl) (pe_op op_times (pe_callJ D__law_draw hr (pa_cons (pv 0) (pa_cons (pe_op op_pow pe_int pe_int) pa_nil))) (pe_op op_pow pe_int pe_int)) (pe_callJ D__law_draw hr (pa_cons (pv 0) (pa_cons (pe_op op_pow pe_int pe_int) pa_nil))))))
(pss_cons (ps_if (pt_cmpR (k_eq (K := K) rfl hr) (pv 2) pe_int (nomark _))
(pss_one (ps_ret (pe_lc (own := [("one", 7)]) (g := gName 7) (tt := tYes) rfl sc__law_weights.nd (k_seq (K := K) rfl (pv 3)) (blkOk_by (N := N__law_weights) (sc := defScope s__law_weights) (by decide +kernel)) (fun _ _ _ _ _ => (pg_name (i := 7) sc__law_weights.nd rfl (by first | exact Or.inl rfl | exact Or.inr rfl))) (fun _ _ _ _ _ => pts_nil) (fun _ _ _ _ _ => (pe_op op_mod (pv 7) pe_int)))))
pss_nil)
(pss_cons (ps_if (pt_cmpR (k_eq (K := K) rfl hr) (pv 2) pe_int (nomark _))
(pss_one (ps_ret (pe_lc (own := [("one", 7)]) (g := gName 7) (tt := tYes) rfl sc__law_weights.nd (k_seq (K := K) rfl (pv 3)) (blkOk_by (N := N__law_weights) (sc := defScope s__law_weights) (by decide +kernel)) (fun _ _ _ _ _ => (pg_name (i := 7) sc__law_weights.nd rfl (by first | exact Or.inl rfl | exact Or.inr rfl))) (fun _ _ _ _ _ => pts_nil) (fun _ _ _ _ _ => (pe_op op_mod (pv 7) pe_int)))))
pss_nil)
(pss_cons (ps_if (pt_cmpR (k_eq (K := K) rfl hr) (pv 2) pe_int (nomark _))
(pss_one (ps_ret (pe_op op_times (pe_slice (k_sl (K := K) rfl) (pv 3) po_none (po_some pe_int)) (pv 1))))
pss_nil)
(pss_cons (ps_if (pt_cmpR (k_eq (K := K) rfl hr) (pv 2) pe_int (nomark _))
(pss_one (ps_ret (pe_lc (own := [("k", 6)]) (g := gName 6) (tt := tYes) rfl sc__law_weights.nd (pi_range1 (by rfl) T.range (pa_cons (pv 1) pa_nil)) (blkOk_by (N := N__law_weights) (sc := defScope s__law_weights) (by decide +kernel)) (fun _ _ _ _ _ => (pg_name (i := 6) sc__law_weights.nd rfl (by first | exact Or.inl rfl | exact Or.inr rfl))) (fun _ _ _ _ _ => pts_nil) (fun _ _ _ _ _ => (pe_op op_shlW pe_int (pv 6))))))
pss_nil)
(pss_cons (ps_if (pt_cmpR (k_eq (K := K) rfl hr) (pv 2) pe_int (nomark _))
(pss_cons (ps_set (i := 4) sc__law_weights.nd rfl (by first | exact Or.inl rfl | exact Or.inr rfl) (pe_lst (pa_cons pe_int (pa_cons pe_int pa_nil))))
(pss_cons (ps_while PassesOwn.never (pt_cmpR (k_lt (K := K) rfl hr) (pe_callB (k_len (K := K) rfl) (by rfl) T.len bt_len (pa_cons (pv 4) pa_nil)) (pv 1) (nomark _))
(pss_one (ps_expr (k_bm (K := K) rfl PySem.F.plainAttrs_list PySem.F.slot_list_append PySem.F.type_list_append mt_append (pv 4) (pa_cons (pe_op (k_plus (K := K) rfl) (pe_ix (k_ix (K := K) rfl) (pv 4) (pe_un un_neg pe_int) (fun _ _ => rfl)) (pe_ix (k_ix (K := K) rfl) (pv 4) (pe_un un_neg pe_int) (fun _ _ => rfl))) pa_nil)))))
(pss_one (ps_ret (pe_slice (k_sl (K := K) rfl) (pv 4) po_none (po_some (pv 1)))))))
pss_nil)
(pss_cons (ps_if (pt_cmpR (k_eq (K := K) rfl hr) (pv 2) pe_int (nomark _))
(pss_one (ps_ret (pe_lc (own := [("k", 6), ("one", 7)]) (g := gTup K 2 (gCons (gName 6) (gCons (gName 7) gNil))) (tt := tYes) rfl sc__law_weights.nd (k_enum (K := K) rfl (by rfl) T.enumerate (pa_cons (pv 3) pa_nil)) (blkOk_by (N := N__law_weights) (sc := defScope s__law_weights) (by decide +kernel)) (fun _ _ _ _ _ => (k_tup (K := K) rfl rfl (pgs_cons (pg_name (i := 6) sc__law_weights.nd rfl (by first | exact Or.inl rfl | exact Or.inr rfl)) (pgs_cons (pg_name (i := 7) sc__law_weights.nd rfl (by first | exact Or.inl rfl | exact Or.inr rfl)) pgs_nil)))) (fun _ _ _ _ _ => pts_nil) (fun _ _ _ _ _ => (pe_ix (k_ix (K := K) rfl) (pe_lst (pa_cons (pe_op op_mod (pv 7) pe_int) (pa_cons (pe_op op_mod (pv 7) pe_int) pa_nil))) (pe_op op_mod (pv 6) pe_int) (fun _ _ => rfl))))))
pss_nil)
(pss_cons (ps_if (pt_cmpR (k_eq (K := K) rfl hr) (pv 2) pe_int (nomark _))
(pss_cons (ps_set (i := 5) sc__law_weights.nd rfl (by first | exact Or.inl rfl | exact Or.inr rfl) (pe_op op_mod (pe_ix (k_ix (K := K) rfl) (pv 3) pe_int (fun _ _ => rfl)) (pe_op (k_plus (K := K) rfl) (pv 1) pe_int)))
(pss_one (ps_ret (pe_op (k_plus (K := K) rfl) (k_rev (K := K) rfl (pe_callB (k_sorted (K := K) rfl) (by rfl) T.sorted bt_sorted (pa_cons (pe_slice (k_sl (K := K) rfl) (pv 3) po_none (po_some (pv 5))) pa_nil))) (pe_callB (k_sorted (K := K) rfl) (by rfl) T.sorted bt_sorted (pa_cons (pe_slice (k_sl (K := K) rfl) (pv 3) (po_some (pv 5)) po_none) pa_nil))))))
pss_nil)
(pss_cons (ps_if (pt_cmpR (k_eq (K := K) rfl hr) (pv 2) pe_int (nomark _))
(pss_one (ps_ret (pe_lc (own := [("one", 7)]) (g := gName 7) (tt := tYes) rfl sc__law_weights.nd (k_seq (K := K) rfl (pv 3)) (blkOk_by (N := N__law_weights) (sc := defScope s__law_weights) (by decide +kernel)) (fun _ _ _ _ _ => (pg_name (i := 7) sc__law_weights.nd rfl (by first | exact Or.inl rfl | exact Or.inr rfl))) (fun _ _ _ _ _ => pts_nil) (fun _ _ _ _ _ => (pe_op op_sub (pe_op op_sub (pe_op op_pow pe_int pe_int) pe_int) (pe_op op_mod (pv 7) pe_int))))))
pss_nil)
(pss_one (ps_ret (pv 3)))))))))))))
, fun as μ k g Q h hM hR => ?_⟩
  obtain ⟨a, gr, m, t, n, rfl, rfl, h0, h1, h2, h3, h4, hk⟩ := h
  replace hR := hR.drop
  repeat (walk_at "j")
  refine ev_call1 ?_
  repeat (walk_at "j")
  refine ⟨_, [], rfl, a, gr, m, t, 9, rfl, rfl, h0, by decide, by decide, by omega, by omega, fun way g' w1 w2 hg' => ?_⟩
  repeat (walk_at "j")
  -- far = [.. for k in range(many)]
  refine ev_lc (iv_range0 ?_)
  repeat (walk_at "j")
  refine ⟨by omega, by omega, fun i acc μ => ∃ ns g2, ns.length = i ∧ acc = numS ns ∧ μ = [deckC a g2 m (t + 1 + 2 * i)] ∧ (∀ x ∈ ns, 0 ≤ x) ∧ 0 ≤ g2, ⟨[], g', rfl, rfl, by rw [show t + 1 + 2 * ((0 : Nat) : Int) = t + 1 by omega]; rfl, fun x z => (nomatch z), hg'⟩, fun i x acc μ hx ⟨ns, g2, e1, e2, e3, e4, e5⟩ => ?_, fun acc μ ⟨far, g2, e1, e2, e3, e4, e5⟩ => ⟨trivial, ?_⟩⟩
  · obtain ⟨hi, rfl⟩ := nats_get hx
    subst e2 e3
    refine ⟨trivial, by unfold numS; rw [List.length_map, e1]; exact Nat.lt_of_lt_of_le (m := 48) (by omega) (by decide), tg_name (by decide) (evt_yes ⟨fun _ => ?_, fun z => nomatch z⟩)⟩
    repeat (walk_at "j")
    refine ev_call1 ?_
    repeat (walk_at "j")
    refine ⟨_, [], rfl, a, g2, m, _, _, rfl, rfl, e5, by decide, by decide, by omega, by omega, fun r1 g3 r1a r1b hg3 => ?_⟩
    have h10 : (10 : Int) ^ (6 : Int).toNat = 1000000 := by decide
    rw [h10] at r1b
    repeat (walk_at "j")
    refine ev_call1 ?_
    repeat (walk_at "j")
    refine ⟨_, [], rfl, a, g3, m, _, _, rfl, rfl, hg3, by decide, by decide, by omega, by omega, fun r2 g4 r2a r2b hg4 => ?_⟩
    repeat (walk_at "j")
    refine ⟨ns ++ [_], g4, by rw [List.length_append, e1]; rfl, by unfold numS; rw [List.map_append]; rfl, ?_, fun x hx => ?_, hg4⟩
    · rw [show t + 1 + 2 * ((i + 1 : Nat) : Int) = t + 1 + 2 * (i : Int) + 1 + 1 by omega]
      rfl
    · rcases List.mem_append.mp hx with hx | hx
      · exact e4 x hx
      · rw [List.mem_singleton.mp hx]
        have : 0 ≤ r1 * 10 ^ (6 : Int).toNat := Int.mul_nonneg r1a (by decide)
        omega
  rw [nats_len] at e1 e3
  subst e2 e3
  refine .c fun p => ?_
  have hn : far.length = n := by omega
  generalize ht2 : t + 1 + 2 * ((n : Int).toNat : Int) = t2
  have ht3 : t ≤ t2 ∧ t2 ≤ t + 50 := by omega
  have hfin : ∀ ns q, ns.length = n → (∀ x ∈ ns, 0 ≤ x) → ∃ μ' : Store, μ'.Sublist ((q, .lst (numS ns)) :: (p, .lst (numS far)) :: [deckC a g2 m t2]) ∧ k (.mt q) μ' := fun ns q z1 z2 =>
    ⟨_, .cons₂ _ (.cons _ (.refl _)), hk ns q g2 t2 z1 z2 e5 ht3.1 ht3.2⟩
  have hfin2 : ∀ ns q, ns.length = n → (∀ x ∈ ns, 0 ≤ x) → ∃ μ' : Store, μ'.Sublist ((q, .lst (numS ns)) :: [deckC a g2 m t2]) ∧ k (.mt q) μ' := fun ns q z1 z2 =>
    ⟨_, .refl _, hk ns q g2 t2 z1 z2 e5 ht3.1 ht3.2⟩
  have hbig : ∀ ns : List Int, ns.length = n → ns.length < sizeLine := fun ns e => by rw [e]; exact Nat.lt_of_lt_of_le (m := 48) (by omega) (by decide)
  have emap : ∀ (f : Int → Int) (ns : List Int), (ns.map fun z => PyData.int (f z)).map SD.im = numS (ns.map f) := fun f ns => by unfold numS; rw [List.map_map, List.map_map]; rfl
  repeat (walk_at "j")
  refine ⟨fun _ => ?_, fun _ => ?_⟩
  · repeat (walk_at "j")
    refine ev_mapN (Gd := fun μ' => (p, Cell.lst (numS far)) ∈ μ') (fun z : Int => .im (.int z)) (fun z => .int (z % 3)) far (fun ki q => iv_cell ?_) List.mem_cons_self (hbig _ hn) (fun z _ => tg_name (by decide) ?_) (.c fun q => ?_)
    · repeat (walk_at "j")
      exact ⟨_, _, rfl, List.mem_cons_self, q⟩
    · repeat (walk_at "j")
      exact ⟨rfl, rfl⟩
    · rw [emap (fun z => z % 3)]
      exact hfin _ q (by rw [List.length_map, hn]) fun x hx => by obtain ⟨z, _, rfl⟩ := List.mem_map.mp hx; exact Int.emod_nonneg _ (by decide)
  repeat (walk_at "j")
  refine ⟨fun _ => ?_, fun _ => ?_⟩
  · repeat (walk_at "j")
    refine ev_mapN (Gd := fun μ' => (p, Cell.lst (numS far)) ∈ μ') (fun z : Int => .im (.int z)) (fun z => .int (z % 10)) far (fun ki q => iv_cell ?_) List.mem_cons_self (hbig _ hn) (fun z _ => tg_name (by decide) ?_) (.c fun q => ?_)
    · repeat (walk_at "j")
      exact ⟨_, _, rfl, List.mem_cons_self, q⟩
    · repeat (walk_at "j")
      exact ⟨rfl, rfl⟩
    · rw [emap (fun z => z % 10)]
      exact hfin _ q (by rw [List.length_map, hn]) fun x hx => by obtain ⟨z, _, rfl⟩ := List.mem_map.mp hx; exact Int.emod_nonneg _ (by decide)
  repeat (walk_at "j")
  refine ⟨fun _ => ?_, fun _ => ?_⟩
  · -- far[:1] * many
    repeat (walk_at "j")
    refine rs_list (.c List.mem_cons_self) ?_
    have hf1 : (numS far).length = n := by unfold numS; rw [List.length_map, hn]
    obtain ⟨z, r, hz⟩ : ∃ z r, far = z :: r := by
      cases far with
      | nil => simp at hn; omega
      | cons z r => exact ⟨z, r, rfl⟩
    have ec : cutL (numS far) none (some 1) = [PyData.int z].map SD.im := by
      rw [show (1 : Int) = ((1 : Nat) : Int) from rfl, cut_upto (by omega), hz]
      rfl
    rw [ec]
    refine .d ?_
    repeat (walk_at "j")
    refine rv_rep (.d _) (by omega) (by omega) (by show 1 * (n : Int).toNat ≤ sizeLine; exact Nat.le_trans (m := 48) (by omega) (by decide)) (.c fun q => ?_)
    have er : (List.replicate (n : Int).toNat ([PyData.int z].map SD.im)).flatten = numS (List.replicate n z) := by
      unfold numS
      rw [Int.toNat_natCast, List.map_replicate]
      simp
    rw [er]
    exact hfin _ q (by simp) fun x hx => by rw [(List.mem_replicate.mp hx).2]; exact e4 z (by rw [hz]; exact List.mem_cons_self)
  repeat (walk_at "j")
  refine ⟨fun _ => ?_, fun _ => ?_⟩
  · -- 1 << k
    repeat (walk_at "j")
    refine ev_mapN (Gd := free) (fun i : Nat => .im (.int i)) (fun i => .int (1 * 2 ^ (i : Int).toNat)) (List.range n) (fun ki q => iv_range0 ?_) trivial (by rw [List.length_range]; exact Nat.lt_of_le_of_lt h4 (by decide)) (fun i hi => tg_name (by decide) ?_) (.c fun q => ?_)
    · repeat (walk_at "j")
      exact ⟨by omega, by omega, by rw [show (n : Int).toNat = n by omega]; exact q⟩
    · have hi := List.mem_range.mp hi
      repeat (walk_at "j")
      refine rv_i ⟨by omega, ?_⟩ ⟨rfl, rfl⟩
      have : (Builtin.Int.intBits 1 : Int) = 1 := by decide
      omega
    · have em : ((List.range n).map fun i : Nat => PyData.int (1 * 2 ^ (i : Int).toNat)).map SD.im = numS ((List.range n).map fun i : Nat => 1 * 2 ^ (i : Int).toNat) := by unfold numS; rw [List.map_map, List.map_map]; rfl
      rw [em]
      exact hfin _ q (by simp) fun x hx => by
        obtain ⟨i, _, rfl⟩ := List.mem_map.mp hx
        exact Int.mul_nonneg (by decide) (Int.pow_nonneg (by decide))
  repeat (walk_at "j")
  refine ⟨fun _ => ?_, fun _ => ?_⟩
  · -- 1, 1, 2, 3, 5
    repeat (walk_at "j")
    refine ev_lstM ?_
    repeat (walk_at "j")
    refine ⟨by show (2 : Nat) ≤ sizeLine; decide, fun q => ?_⟩
    repeat (walk_at "j")
    refine go_while (fun m' ρ' μ' => ∃ L : List Int, m' = n - L.length ∧ 2 ≤ L.length ∧ L.length ≤ 24 ∧ (∀ x ∈ L, 0 ≤ x) ∧ ρ' = [some (.mt a), some (.im (.int n)), some (.im (.int way)), some (.mt p), some (.mt q), none, none, none] ∧ μ' = (q, .lst (numS L)) :: (p, .lst (numS far)) :: [deckC a g2 m t2]) (n - 2)
      ⟨[1, 1], rfl, by decide, by decide, by decide, rfl, rfl⟩ ?_
    rintro m' ρ' μ' ⟨L, rfl, l2, l24, hL, rfl, rfl⟩
    have hn2 : (numS L).length = L.length := by unfold numS; simp
    repeat (walk_at "j")
    refine ⟨fun hb => ?_, fun hb => ?_⟩
    · have hb := of_decide_eq_true hb
      repeat (walk_at "j")
      refine ev_bm ?_
      repeat (walk_at "j")
      refine ⟨.l (.c List.mem_cons_self), ?_⟩
      repeat (walk_at "j")
      have y1 : L[L.length - 1]? = some L[L.length - 1] := List.getElem?_eq_getElem (by omega)
      have y2 : L[L.length - 2]? = some L[L.length - 2] := List.getElem?_eq_getElem (by omega)
      refine rv_ixC (y := .im (.int L[L.length - 1])) List.mem_cons_self (atI_last (by rw [hn2]; unfold numS; rw [List.getElem?_map, y1]; rfl)) ?_
      repeat (walk_at "j")
      refine rv_ixC (y := .im (.int L[L.length - 2])) List.mem_cons_self (atI_back (j := L.length - 2) (by decide) (by rw [hn2]; omega) (by unfold numS; rw [List.getElem?_map, y2]; rfl)) ?_
      repeat (walk_at "j")
      refine rm_append 0 rfl (by rw [hn2]; exact Nat.lt_of_lt_of_le (m := 48) (by omega) (by decide)) ?_
      refine nxt_nxw ?_ (Fg.refl _) (List.Sublist.refl _)
      refine ⟨n - (L.length + 1), by omega, L ++ [L[L.length - 1] + L[L.length - 2]], by rw [List.length_append]; rfl, by rw [List.length_append]; omega, by rw [List.length_append]; simp only [List.length_cons, List.length_nil]; omega, fun x hx => ?_, rfl, ?_⟩
      · rcases List.mem_append.mp hx with hx | hx
        · exact hL x hx
        · rw [List.mem_singleton.mp hx]
          have := hL _ (List.getElem_mem (show L.length - 1 < L.length by omega))
          have := hL _ (List.getElem_mem (show L.length - 2 < L.length by omega))
          omega
      · unfold numS
        rw [List.map_append]
        rfl
    · have hb := of_decide_eq_false hb
      repeat (walk_at "j")
      refine rs_list (.c List.mem_cons_self) (.c fun q2 => ?_)
      have ec : cutL (numS L) none (some (n : Int)) = numS (L.take n) := by
        rw [cut_upto (by omega)]
        unfold numS
        rw [List.map_take]
      rw [ec]
      refine ⟨_, .cons₂ _ (.cons _ (.cons _ (.refl _))), hk (L.take n) q2 g2 t2 (by rw [List.length_take]; omega) (fun x hx => hL x (List.mem_of_mem_take hx)) e5 ht3.1 ht3.2⟩
  repeat (walk_at "j")
  refine ⟨fun _ => ?_, fun _ => ?_⟩
  · -- by turns
    have hz : ([(p, Cell.lst (numS far)), deckC a g2 m t2] : Store)[0]? = some (p, .lst ((far.map .int).map .im)) := by
      rw [← ints_ims]
      rfl
    refine go_freeze 3 0 (ds := far.map .int) hz rfl (by rw [hM]; exact fun a h => h) ?_
    repeat (walk_at "j")
    have ei : ((far.map PyData.int).mapIdx fun i d => SD.im (.tuple [.int i, d])) = (far.mapIdx fun i z => (i, z)).map fun q : Nat × Int => SD.im (.tuple [.int q.1, .int q.2]) := by
      apply List.ext_getElem?
      intro i
      simp only [List.getElem?_mapIdx, List.getElem?_map, Option.map_map]
      rfl
    refine ev_mapN (Gd := free) (fun q : Nat × Int => SD.im (.tuple [.int q.1, .int q.2])) (fun q => .int (if q.1 % 2 = 0 then q.2 % 5 else q.2 % 1000)) (far.mapIdx fun i z => (i, z)) (fun ki q => iv_enum ?_) trivial (by rw [List.length_mapIdx]; exact hbig _ hn) (fun q _ => tg_tup (ds := [_, _]) rfl (tgs_cons (tg_name (by decide) (tgs_cons (tg_name (by decide) (tgs_nil ?_)))))) (.c fun q => ?_)
    · repeat (walk_at "j")
      rw [ei]
      exact q
    · repeat (walk_at "j")
      refine ev_lst2 ?_
      repeat (walk_at "j")
      rcases Nat.mod_two_eq_zero_or_one q.1 with h | h
      · refine rv_ixL (d := .int (q.2 % 5)) (atI_at (i := 0) (by omega) rfl) ⟨by rw [if_pos h], rfl⟩
      · refine rv_ixL (d := .int (q.2 % 1000)) (atI_at (i := 1) (by omega) rfl) ⟨by rw [if_neg (by omega)], rfl⟩
    · have em : ((far.mapIdx fun i z => (i, z)).map fun q : Nat × Int => PyData.int (if q.1 % 2 = 0 then q.2 % 5 else q.2 % 1000)).map SD.im = numS ((far.mapIdx fun i z => (i, z)).map fun q : Nat × Int => if q.1 % 2 = 0 then q.2 % 5 else q.2 % 1000) := by unfold numS; rw [List.map_map, List.map_map]; rfl
      rw [em]
      exact hfin2 _ q (by simp [hn]) fun x hx => by
        obtain ⟨i, _, rfl⟩ := List.mem_map.mp hx
        split <;> exact Int.emod_nonneg _ (by decide)
  repeat (walk_at "j")
  refine ⟨fun _ => ?_, fun _ => ?_⟩
  · -- down and up
    repeat (walk_at "j")
    obtain ⟨z, r, hz⟩ : ∃ z r, far = z :: r := by
      cases far with
      | nil => simp at hn; omega
      | cons z r => exact ⟨z, r, rfl⟩
    refine rv_ixC (y := .im (.int z)) List.mem_cons_self (atI_at (i := 0) rfl (by rw [hz]; rfl)) ?_
    repeat (walk_at "j")
    have hf1 : (numS far).length = n := by unfold numS; rw [List.length_map, hn]
    obtain ⟨j, hj⟩ : ∃ j : Nat, z % ((n : Int) + 1) = j := ⟨(z % ((n : Int) + 1)).toNat, by have := Int.emod_nonneg z (show (n : Int) + 1 ≠ 0 by omega); omega⟩
    have hjn : j ≤ n := by
      have := Int.emod_lt_of_pos z (show 0 < (n : Int) + 1 by omega)
      omega
    rw [hj]
    refine ev_revA ?_
    repeat (walk_at "j")
    refine rs_list (.c List.mem_cons_self) ?_
    rw [cut_upto (by omega), show (numS far).take j = ((far.take j).map PyData.int).map .im by rw [← ints_ims]; unfold numS; rw [List.map_take]]
    refine .d (eva_nil (rc_sorted (qv_lstI _) fun L1 p1 _ => ?_))
    rw [ints_ims L1]
    refine .d ?_
    refine Or.inl ⟨_, .d _, ?_⟩
    rw [← List.map_reverse, ← List.map_reverse]
    refine .d ?_
    repeat (walk_at "j")
    refine rs_list (.c List.mem_cons_self) ?_
    rw [cut_from (by omega), show (numS far).drop j = ((far.drop j).map PyData.int).map .im by rw [← ints_ims]; unfold numS; rw [List.map_drop]]
    refine .d (eva_nil (rc_sorted (qv_lstI _) fun L2 p2 _ => ?_))
    rw [ints_ims L2]
    have l1 := p1.length_eq
    have l2 := p2.length_eq
    rw [List.length_take] at l1
    rw [List.length_drop] at l2
    refine .d (rv_cat (.d _) (.d _) ?_ (.c fun q => ?_))
    · simp only [List.length_map, List.length_reverse, l1, l2]
      exact Nat.le_trans (m := 48) (by omega) (by decide)
    · rw [← ints_ims L1.reverse, ← ints_ims L2, show numS L1.reverse ++ numS L2 = numS (L1.reverse ++ L2) by unfold numS; rw [List.map_append]]
      refine hfin _ q (by rw [List.length_append, List.length_reverse, l1, l2]; omega) fun x hx => ?_
      rcases List.mem_append.mp hx with hx | hx
      · exact e4 x (List.mem_of_mem_take (p1.mem_iff.mp (List.mem_reverse.mp hx)))
      · exact e4 x (List.mem_of_mem_drop (p2.mem_iff.mp hx))
  repeat (walk_at "j")
  refine ⟨fun _ => ?_, fun _ => ?_⟩
  · repeat (walk_at "j")
    refine ev_mapN (Gd := fun μ' => (p, Cell.lst (numS far)) ∈ μ') (fun z : Int => .im (.int z)) (fun z => .int (10 ^ (12 : Int).toNat - 1 - z % 2)) far (fun ki q => iv_cell ?_) List.mem_cons_self (hbig _ hn) (fun z _ => tg_name (by decide) ?_) (.c fun q => ?_)
    · repeat (walk_at "j")
      exact ⟨_, _, rfl, List.mem_cons_self, q⟩
    · repeat (walk_at "j")
      exact ⟨rfl, rfl⟩
    · rw [emap (fun z => 10 ^ (12 : Int).toNat - 1 - z % 2)]
      exact hfin _ q (by rw [List.length_map, hn]) fun x hx => by
        obtain ⟨z, _, rfl⟩ := List.mem_map.mp hx
        have h10 : (10 : Int) ^ (12 : Int).toNat = 1000000000000 := by decide
        rw [h10]
        omega
  repeat (walk_at "j")
  exact hfin2 far p hn e4
end
end J
namespace J
open PySem PySem.Spec PyProof.Rows L2
local macro_rules | `(tactic| walk_at "side") => `(tactic| first
  | (show (0 : Int) < _; omega) | omega | exact ⟨by omega, by omega⟩ | exact Or.inl ⟨by omega, by omega⟩ | exact Or.inr ⟨by omega, by omega⟩ | exact ⟨by decide, by decide, by decide⟩ | (refine ⟨?_, ?_, ?_, ?_⟩ <;> omega) | (show _ ≤ sizeLine; simp only [List.length_cons, List.length_nil]; decide) | decide | assumption)
local macro_rules | `(tactic| walk_at "mem") => `(tactic| first | exact List.mem_cons_self | exact List.mem_cons_of_mem _ List.mem_cons_self | exact List.mem_cons_of_mem _ (List.mem_cons_of_mem _ List.mem_cons_self))
local macro_rules | `(tactic| walk_at "j") => `(tactic| first
  | with_reducible refine ev_op ?_ | with_reducible refine ev_un ?_ | with_reducible refine ev_int ?_ | with_reducible refine ev_bl ?_ | with_reducible refine ev_str ?_ | with_reducible refine ev_non ?_ | with_reducible refine ev_cb ?_ | with_reducible refine eva_nil ?_ | with_reducible refine eva_cons ?_
  | ((with_reducible refine' ev_var ?h1 ?_); (case h1 => rfl))
  | with_reducible refine rv_plus ?_ | with_reducible refine rv_lt ?_ | with_reducible refine rv_eqI ?_ | with_reducible refine rv_neI ?_
  | ((with_reducible refine' rv_times ?h1 ?_); (case h1 => walk_at "side"))
  | with_reducible refine rv_i0 ?_ | with_reducible refine rv_b0 ?_ | ((with_reducible refine' rv_i ?h1 ?_); (case h1 => walk_at "side")) | with_reducible refine ru_i ?_
  | ((with_reducible refine' rv_ixT ?h1 ?_); (case h1 => rfl)) | ((with_reducible refine' rv_ixL ?h1 ?_); (case h1 => rfl)) | ((with_reducible refine' rv_ixC ?h1 ?h2 ?_); (case h1 => walk_at "mem"); (case h2 => rfl))
  | with_reducible refine ev_sl ?_ | with_reducible refine evo_none ?_ | with_reducible refine evo_some ?_ | with_reducible refine rs_tup ?_ | with_reducible refine rs_listD ?_
  | with_reducible refine rc_lenT ?_ | with_reducible refine rc_lenL ?_ | ((with_reducible refine' rc_lenC ?h1 ?_); (case h1 => walk_at "mem")) | with_reducible refine rc_abs ?_ | with_reducible refine rc_min2 ?_ | with_reducible refine rc_max2 ?_
  | with_reducible refine ev_tup1 ?_ | with_reducible refine ev_tup2 ?_ | with_reducible refine ev_tup3 ?_
  | with_reducible refine evt_not ?_ | with_reducible refine evt_test ?_
  | ((with_reducible refine' rs_setL 0 ?h1 ?h2 ?_); (case h1 => rfl); (case h2 => rfl))
  | with_reducible refine ⟨_, rfl, ?_⟩
  | with_reducible refine ⟨_, _, rfl, rfl, ?_⟩ | with_reducible refine ⟨_, _, _, rfl, rfl, rfl, ?_⟩
  | with_reducible refine go_if ?_
  | with_reducible refine go_seq ?_ | with_reducible refine go_asg ?_ | with_reducible refine go_sub ?_ | with_reducible refine nxt_seq ?_ | with_reducible refine nxt_ret ?_ | with_reducible refine nxt_asg ?_ | with_reducible refine nxt_if ?_ | with_reducible refine nxt_for ?_ | with_reducible refine nxt_while ?_ | with_reducible refine nxt_drop ?_ | with_reducible refine nxt_cut ?_ | with_reducible refine nxt_aug ?_ | with_reducible refine nxt_next ?_ | with_reducible refine go_next ?_ | with_reducible refine go_drop ?_ | (with_reducible refine go_ret (by assumption) ?_))
abbrev s__law_heaps : Stmt := topS 11
abbrev N__law_heaps : List Str := ["deck", "most", "many", "found", "at", "some"]
theorem sc__law_heaps : FnScope N__law_heaps ["deck", "most"] (defScope s__law_heaps) := ⟨rfl, rfl, rfl, by decide +kernel, rfl, by decide +kernel, by decide +kernel⟩
-- 0:deck 1:most 2:many 3:found 4:at 5:some
def preHeaps (as : List SD) (μ : Store) (k : SD → Store → Prop) : Prop := ∃ a g m t, ∃ most : Nat, as = [.mt a, .im (.int most)] ∧ μ = [deckC a g m t] ∧ 0 ≤ g ∧ 0 ≤ t ∧ t ≤ 900 ∧ 1 ≤ most ∧ most ≤ 24 ∧
  ∀ (ns : List Int) g' t', 1 ≤ ns.length → ns.length ≤ most → (∀ x ∈ ns, 0 ≤ x) → 0 ≤ g' → t ≤ t' → t' ≤ t + 60 → k (.im (encH ns)) [deckC a g' m t']
section
variable {P : Program} {w : World} {K : PySem.W.Frag} {mg : Str → Option Value} {base : Heap} {f : Addr} {fd : FuncData}
theorem ok__law_heaps (T : Txt mg) (D__law_draw : Def P w K mg base "_law_draw" ["deck", "most"] 1 (SpR preDraw)) (D__law_weights : Def P w K mg base "_law_weights" ["deck", "many"] 2 (SpR preWeights)) (F : Fun K "_law_heaps" "_law_heaps" s__law_heaps f fd) : FnOk P w K mg base CX0 3 f fd ["deck", "most"] (SpR preHeaps) := by
  refine fn_ok F sc__law_heaps (fun as μ k h => by obtain ⟨a, g, m, t, most, rfl, _⟩ := h; rfl) fun cdv A outer s H E hr => ⟨_,
(pss_cons (ps_set (i := 2) sc__law_heaps.nd rfl (by first | exact Or.inl rfl | exact Or.inr rfl) (pe_ix (k_ix (K := K) rfl) (pe_lst (pa_cons (pe_op (k_plus (K := K) rfl) pe_int (pe_callJ D__law_draw hr (pa_cons (pv 0) (pa_cons (pv 1) pa_nil)))) (pa_cons (pv 1) (pa_cons (pe_op (k_plus (K := K) rfl) pe_int (pe_callJ D__law_draw hr (pa_cons (pv 0) (pa_cons (pe_callB (k_min (K := K) rfl rfl hr) (by rfl) T.min bt_min (pa_cons pe_int (pa_cons (pv 1) pa_nil))) pa_nil)))) pa_nil)))) (pe_callJ D__law_draw hr (pa_cons (pv 0) (pa_cons pe_int pa_nil))) (fun _ _ => rfl)))
(pss_cons (ps_set (i := 3) sc__law_heaps.nd rfl (by first | exact Or.inl rfl | exact Or.inr rfl) (pe_callJ D__law_weights hr (pa_cons (pv 0) (pa_cons (pv 2) pa_nil))))
(Evl.pss_cut (ps_if (pt_cmpR (k_eq (K := K) rfl hr) (pe_callJ D__law_draw hr (pa_cons (pv 0) (pa_cons pe_int pa_nil))) pe_int (nomark _))
(pss_one (ps_set (i := 3) sc__law_heaps.nd rfl (by first | exact Or.inl rfl | exact Or.inr rfl) (k_rev (K := K) rfl (pv 3))))
pss_nil)
(Evl.pss_cut (ps_if (pt_cmpR (k_eq (K := K) rfl hr) (pe_callJ D__law_draw hr (pa_cons (pv 0) (pa_cons pe_int pa_nil))) pe_int (nomark _))
(pss_cons (ps_set (i := 4) sc__law_heaps.nd rfl (by first | exact Or.inl rfl | exact Or.inr rfl) (pe_callJ D__law_draw hr (pa_cons (pv 0) (pa_cons (pv 2) pa_nil))))
(pss_cons (ps_set (i := 5) sc__law_heaps.nd rfl (by first | exact Or.inl rfl | exact Or.inr rfl) (pe_lst (pa_cons pe_int (pa_cons (pe_ix (k_ix (K := K) rfl) (pv 3) (pe_op op_sub (pv 4) pe_int) (fun _ _ => rfl)) (pa_cons (pe_callB (k_min (K := K) rfl rfl hr) (by rfl) T.min bt_min (pa_cons (pe_op op_sub (pe_op op_pow pe_int pe_int) pe_int) (pa_cons (pe_op (k_plus (K := K) rfl) (pe_ix (k_ix (K := K) rfl) (pv 3) (pv 4) (fun _ _ => rfl)) pe_int) pa_nil))) (pa_cons (pe_callJ D__law_draw hr (pa_cons (pv 0) (pa_cons (pe_op op_pow pe_int pe_int) pa_nil))) pa_nil))))))
(pss_one (ps_asg (pe_ix (k_ix (K := K) rfl) (pv 5) (pe_callJ D__law_draw hr (pa_cons (pv 0) (pa_cons pe_int pa_nil))) (fun _ _ => rfl)) (pg_sub (pv 3) (pv 4) set_list)))))
pss_nil)
(pss_one (ps_ret (pe_callTy (k_tuple (K := K) rfl) (by rfl) T.tuple bt_tuple (pa_cons (pv 3) pa_nil))))))))
, fun as μ k g Q h hM hR => ?_⟩
  obtain ⟨a, g0, m, t, most, rfl, rfl, h0, h1, h2, h3, h4, hk⟩ := h
  replace hR := hR.drop
  repeat (walk_at "j")
  refine ev_lst3 ?_
  repeat (walk_at "j")
  refine ev_call1 ?_
  repeat (walk_at "j")
  refine ⟨_, [], rfl, a, g0, m, t, most, rfl, rfl, h0, by omega, by omega, by omega, by omega, fun r1 g1 r1a r1b hg1 => ?_⟩
  repeat (walk_at "j")
  refine ev_call1 ?_
  repeat (walk_at "j")
  have hmin : (0 : Int) < (if (most : Int) < 4 then (most : Int) else 4) ∧ (if (most : Int) < 4 then (most : Int) else 4) ≤ most + 4 ∧ (if (most : Int) < 4 then (most : Int) else 4) ≤ most := by split <;> omega
  refine ⟨_, [], rfl, a, g1, m, _, _, rfl, rfl, hg1, hmin.1, by omega, by omega, by omega, fun r2 g2 r2a r2b hg2 => ?_⟩
  repeat (walk_at "j")
  refine ev_call1 ?_
  repeat (walk_at "j")
  refine ⟨_, [], rfl, a, g2, m, _, _, rfl, rfl, hg2, by decide, by decide, by omega, by omega, fun r3 g3 r3a r3b hg3 => ?_⟩
  have pick : ∃ many : Nat, atI [PyData.int (1 + r1), PyData.int most, PyData.int (1 + r2)] r3 = some (.int many) ∧ 1 ≤ many ∧ many ≤ most := by
    have : r3 = 0 ∨ r3 = 1 ∨ r3 = 2 := by omega
    rcases this with rfl | rfl | rfl
    · exact ⟨(1 + r1).toNat, (atI_at (i := 0) rfl (by rw [Int.toNat_of_nonneg (by omega)]; rfl)), by omega, by omega⟩
    · exact ⟨most, (atI_at (i := 1) rfl rfl), by omega, by omega⟩
    · exact ⟨(1 + r2).toNat, (atI_at (i := 2) rfl (by rw [Int.toNat_of_nonneg (by omega)]; rfl)), by omega, by omega⟩
  obtain ⟨many, ep, m1, m2⟩ := pick
  refine rv_ixL ep ?_
  repeat (walk_at "j")
  refine ev_call1 ?_
  repeat (walk_at "j")
  refine ⟨_, [], rfl, a, g3, m, _, many, rfl, rfl, hg3, by omega, by omega, m1, by omega, fun ns p g4 t4 n1 n2 hg4 t4a t4b => ?_⟩
  repeat (walk_at "j")
  let Pc : Int → Ren → Store → Prop := fun b ρ' μ' => ∃ (ns : List Int) (p : Addr) (g' t' : Int) (x4 x5 : Option SD), ρ' = [some (.mt a), some (.im (.int most)), some (.im (.int many)), some (.mt p), x4, x5] ∧ μ' = [(p, .lst (numS ns)), deckC a g' m t'] ∧ ns.length = many ∧ (∀ x ∈ ns, 0 ≤ x) ∧ 0 ≤ g' ∧ t ≤ t' ∧ t' ≤ t + b
  refine go_cut (Pc 54) ?_ fun ρ' μ' hP => ?_
  · repeat (walk_at "j")
    refine ev_call2 ?_
    repeat (walk_at "j")
    refine ⟨_, _, [], rfl, a, g4, m, _, _, rfl, rfl, hg4, by decide, by decide, by omega, by omega, fun r5 g5 r5a r5b hg5 => ?_⟩
    repeat (walk_at "j")
    refine ⟨fun _ => ?_, fun _ => ?_⟩
    · repeat (walk_at "j")
      refine ev_revA ?_
      repeat (walk_at "j")
      refine .inl ⟨_, .c List.mem_cons_self, .c fun p2 => ?_⟩
      refine nxt_nxw (μ' := [(p2, .lst (numS ns).reverse), deckC a g5 m (t4 + 1)]) ?_ (Fg.refl _) (.cons₂ _ (.cons _ (.refl _)))
      exact ⟨ns.reverse, p2, g5, t4 + 1, _, _, rfl, by unfold numS; rw [List.map_reverse], by rw [List.length_reverse]; exact n1, fun x hx => n2 x (List.mem_reverse.mp hx), hg5, by omega, by omega⟩
    · repeat (walk_at "j")
      refine nxt_nxw ?_ (Fg.refl _) (.refl _)
      exact ⟨ns, p, g5, t4 + 1, _, _, rfl, rfl, n1, n2, hg5, by omega, by omega⟩
  obtain ⟨ns, p, g6, t6, x4, x5, rfl, rfl, n1, n2, hg6, t6a, t6b⟩ := hP
  refine go_cut (Pc 58) ?_ fun ρ' μ' hP => ?_
  · repeat (walk_at "j")
    refine ev_call2 ?_
    repeat (walk_at "j")
    refine ⟨_, _, [], rfl, a, g6, m, _, _, rfl, rfl, hg6, by decide, by decide, by omega, by omega, fun r7 g7 r7a r7b hg7 => ?_⟩
    repeat (walk_at "j")
    refine ⟨fun _ => ?_, fun _ => ?_⟩
    · repeat (walk_at "j")
      refine ev_call2 ?_
      repeat (walk_at "j")
      refine ⟨_, _, [], rfl, a, g7, m, _, _, rfl, rfl, hg7, by omega, by omega, by omega, by omega, fun r8 g8 r8a r8b hg8 => ?_⟩
      obtain ⟨at', rfl⟩ := Int.eq_ofNat_of_zero_le r8a
      repeat (walk_at "j")
      refine ev_lst4 ?_
      repeat (walk_at "j")
      obtain ⟨y1, hy1, e1⟩ := atI_any (ns := ns) (z := (at' : Int) - 1) (by omega) (by omega)
      refine rv_ixC List.mem_cons_self e1 ?_
      repeat (walk_at "j")
      obtain ⟨y2, hy2, e2⟩ := atI_any (ns := ns) (z := (at' : Int)) (by omega) (by omega)
      refine rv_ixC List.mem_cons_self e2 ?_
      repeat (walk_at "j")
      refine ev_call2 ?_
      repeat (walk_at "j")
      refine ⟨_, _, [], rfl, a, g8, m, _, _, rfl, rfl, hg8, by decide, by decide, by omega, by omega, fun r9 g9 r9a r9b hg9 => ?_⟩
      refine ⟨_, _, _, _, rfl, rfl, rfl, rfl, ?_⟩
      have h10 : (10 : Int) ^ (12 : Int).toNat = 1000000000000 := by decide
      rw [h10]
      have hy1 := n2 _ hy1
      have hy2 := n2 _ hy2
      have hy3 : 0 ≤ if y2 + 1 < 1000000000000 - 1 then y2 + 1 else 1000000000000 - 1 := by split <;> omega
      generalize (if y2 + 1 < 1000000000000 - 1 then y2 + 1 else 1000000000000 - 1) = y3 at hy3
      repeat (walk_at "j")
      refine ev_call2 ?_
      repeat (walk_at "j")
      refine ⟨_, _, [], rfl, a, g9, m, _, _, rfl, rfl, hg9, by decide, by decide, by omega, by omega, fun r10 g10 r10a r10b hg10 => ?_⟩
      have pick : ∃ y, atI [PyData.int 0, .int y1, .int y3, .int r9] r10 = some (.int y) ∧ 0 ≤ y := by
        have : r10 = 0 ∨ r10 = 1 ∨ r10 = 2 ∨ r10 = 3 := by omega
        rcases this with rfl | rfl | rfl | rfl
        · exact ⟨_, atI_at (i := 0) rfl rfl, by decide⟩
        · exact ⟨_, atI_at (i := 1) rfl rfl, hy1⟩
        · exact ⟨_, atI_at (i := 2) rfl rfl, hy3⟩
        · exact ⟨_, atI_at (i := 3) rfl rfl, r9a⟩
      obtain ⟨y, ey, hy⟩ := pick
      refine rv_ixL ey ?_
      repeat (walk_at "j")
      refine rs_setL 0 rfl (ixN_nat (by unfold numS; rw [List.length_map, n1]; omega)) ?_
      refine nxt_nxw ?_ (Fg.refl _) (.refl _)
      refine ⟨ns.set at' y, p, g10, t6 + 1 + 1 + 1 + 1, _, _, rfl, ?_, by rw [List.length_set]; exact n1, fun x hx => ?_, hg10, by omega, by omega⟩
      · unfold numS
        rw [List.map_set]
        rfl
      · rcases List.mem_or_eq_of_mem_set hx with hx | hx
        · exact n2 x hx
        · rw [hx]; exact hy
    · repeat (walk_at "j")
      refine nxt_nxw ?_ (Fg.refl _) (.refl _)
      exact ⟨ns, p, g7, t6 + 1, _, _, rfl, rfl, n1, n2, hg7, by omega, by omega⟩
  obtain ⟨ns, p, g11, t11, x4, x5, rfl, rfl, n1, n2, hg11, t11a, t11b⟩ := hP
  repeat (walk_at "j")
  refine rc_tuple (ds := ns.map .int) (by rw [← ints_ims]; exact .c List.mem_cons_self) ?_
  exact ⟨_, .cons _ (.refl _), hk ns g11 t11 (by omega) (by omega) n2 hg11 (by omega) (by omega)⟩
end
end J
namespace J
open PySem PySem.Spec PyProof.Rows L2
local macro_rules | `(tactic| walk_at "side") => `(tactic| first
  | (show (0 : Int) < _; omega) | omega | exact ⟨by omega, by omega⟩ | exact Or.inl ⟨by omega, by omega⟩ | exact Or.inr ⟨by omega, by omega⟩ | exact ⟨by decide, by decide, by decide⟩ | (refine ⟨?_, ?_, ?_, ?_⟩ <;> omega) | (show _ ≤ sizeLine; simp only [List.length_cons, List.length_nil]; decide) | decide | assumption)
local macro_rules | `(tactic| walk_at "mem") => `(tactic| first | exact List.mem_cons_self | exact List.mem_cons_of_mem _ List.mem_cons_self | exact List.mem_cons_of_mem _ (List.mem_cons_of_mem _ List.mem_cons_self))
local macro_rules | `(tactic| walk_at "j") => `(tactic| first
  | with_reducible refine ev_op ?_ | with_reducible refine ev_un ?_ | with_reducible refine ev_int ?_ | with_reducible refine ev_bl ?_ | with_reducible refine ev_str ?_ | with_reducible refine ev_non ?_ | with_reducible refine ev_cb ?_ | with_reducible refine eva_nil ?_ | with_reducible refine eva_cons ?_
  | ((with_reducible refine' ev_var ?h1 ?_); (case h1 => rfl))
  | with_reducible refine rv_plus ?_ | with_reducible refine rv_lt ?_ | with_reducible refine rv_eqI ?_ | with_reducible refine rv_neI ?_
  | ((with_reducible refine' rv_times ?h1 ?_); (case h1 => walk_at "side"))
  | with_reducible refine rv_i0 ?_ | with_reducible refine rv_b0 ?_ | ((with_reducible refine' rv_i ?h1 ?_); (case h1 => walk_at "side")) | with_reducible refine ru_i ?_
  | ((with_reducible refine' rv_ixT ?h1 ?_); (case h1 => rfl)) | ((with_reducible refine' rv_ixL ?h1 ?_); (case h1 => rfl)) | ((with_reducible refine' rv_ixC ?h1 ?h2 ?_); (case h1 => walk_at "mem"); (case h2 => rfl))
  | with_reducible refine ev_sl ?_ | with_reducible refine evo_none ?_ | with_reducible refine evo_some ?_ | with_reducible refine rs_tup ?_ | with_reducible refine rs_listD ?_
  | with_reducible refine rc_lenT ?_ | with_reducible refine rc_lenL ?_ | ((with_reducible refine' rc_lenC ?h1 ?_); (case h1 => walk_at "mem")) | with_reducible refine rc_abs ?_ | with_reducible refine rc_min2 ?_ | with_reducible refine rc_max2 ?_
  | with_reducible refine ev_tup1 ?_ | with_reducible refine ev_tup2 ?_ | with_reducible refine ev_tup3 ?_
  | with_reducible refine evt_not ?_ | with_reducible refine evt_test ?_
  | ((with_reducible refine' rs_setL 0 ?h1 ?h2 ?_); (case h1 => rfl); (case h2 => rfl))
  | with_reducible refine ⟨_, rfl, ?_⟩
  | with_reducible refine ⟨_, _, rfl, rfl, ?_⟩ | with_reducible refine ⟨_, _, _, rfl, rfl, rfl, ?_⟩
  | with_reducible refine go_if ?_
  | with_reducible refine go_seq ?_ | with_reducible refine go_asg ?_ | with_reducible refine go_sub ?_ | with_reducible refine nxt_seq ?_ | with_reducible refine nxt_ret ?_ | with_reducible refine nxt_asg ?_ | with_reducible refine nxt_if ?_ | with_reducible refine nxt_for ?_ | with_reducible refine nxt_while ?_ | with_reducible refine nxt_drop ?_ | with_reducible refine nxt_cut ?_ | with_reducible refine nxt_aug ?_ | with_reducible refine nxt_next ?_ | with_reducible refine go_next ?_ | with_reducible refine go_drop ?_ | (with_reducible refine go_ret (by assumption) ?_))
abbrev s__law_places_right : Stmt := topS 12
abbrev N__law_places_right : List Str := ["heaps", "cost", "place", "at", "other"]
theorem sc__law_places_right : FnScope N__law_places_right ["heaps", "cost", "place"] (defScope s__law_places_right) := ⟨rfl, rfl, rfl, by decide +kernel, rfl, by decide +kernel, by decide +kernel⟩
-- 0:heaps 1:cost 2:place 3:at 4:other
abbrev s__law_others_right : Stmt := topS 13
abbrev N__law_others_right : List Str := ["deck", "heaps", "cost", "place", "by", "turned", "times", "at", "more", "weight"]
theorem sc__law_others_right : FnScope N__law_others_right ["deck", "heaps", "cost", "place"] (defScope s__law_others_right) := ⟨rfl, rfl, rfl, by decide +kernel, rfl, by decide +kernel, by decide +kernel⟩
-- 0:deck 1:heaps 2:cost 3:place 4:by 5:turned 6:times 7:at 8:more 9:weight
abbrev s_law : Stmt := topS 14
abbrev N_law : List Str := ["script", "deck", "turn", "heaps", "cost", "place"]
theorem sc_law : FnScope N_law ["script"] (defScope s_law) := ⟨rfl, rfl, rfl, by decide +kernel, rfl, by decide +kernel, by decide +kernel⟩
-- 0:script 1:deck 2:turn 3:heaps 4:cost 5:place
def prePlaces (as : List SD) (μ : Store) (k : SD → Store → Prop) : Prop := ∃ ns : List Int, ∃ c, ∃ p : Nat, as = [.im (encH ns), .im (.int c), .im (.int p)] ∧ μ = [] ∧ 1 ≤ ns.length ∧ ns.length ≤ 24 ∧ RingIs ns c p ∧ k (.im (.bool true)) []
def preOthers (as : List SD) (μ : Store) (k : SD → Store → Prop) : Prop := ∃ a g m t, ∃ ns : List Int, ∃ c, ∃ p : Nat, as = [.mt a, .im (encH ns), .im (.int c), .im (.int p)] ∧ μ = [deckC a g m t] ∧ 0 ≤ g ∧ 0 ≤ t ∧ t ≤ 900 ∧ 1 ≤ ns.length ∧ ns.length ≤ 24 ∧ (∀ x ∈ ns, 0 ≤ x) ∧ RingIs ns c p ∧
  ∀ g' t', 0 ≤ g' → t ≤ t' → t' ≤ t + 10 → k (.im (.bool true)) [deckC a g' m t']
section
variable {P : Program} {w : World} {K : PySem.W.Frag} {mg : Str → Option Value} {base : Heap} {f : Addr} {fd : FuncData}
theorem ok__law_places_right (T : Txt mg) (D_least_cost : Def P w K mg base "least_cost" ["heaps"] 2 (SpR preLeast)) (D_any_cost : Def P w K mg base "any_cost" ["heaps"] 1 (SpR preAny)) (F : Fun K "_law_places_right" "_law_places_right" s__law_places_right f fd) : FnOk P w K mg base CX0 3 f fd ["heaps", "cost", "place"] (SpR prePlaces) := by
  refine fn_ok F sc__law_places_right (fun as μ k h => by obtain ⟨ns, c, p, rfl, _⟩ := h; rfl) fun cdv A outer s H E hr => ⟨_,
(pss_cons (ps_for PassesOwn.never rfl (pi_range1 (by rfl) T.range (pa_cons (pe_callB (k_len (K := K) rfl) (by rfl) T.len bt_len (pa_cons (pv 0) pa_nil)) pa_nil)) (pg_name (i := 3) sc__law_places_right.nd rfl (by first | exact Or.inl rfl | exact Or.inr rfl))
(pss_cons (ps_set (i := 4) sc__law_places_right.nd rfl (by first | exact Or.inl rfl | exact Or.inr rfl) (pe_callJ D_least_cost hr (pa_cons (pe_op (k_plus (K := K) rfl) (pe_slice (k_sl (K := K) rfl) (pv 0) (po_some (pv 3)) po_none) (pe_slice (k_sl (K := K) rfl) (pv 0) po_none (po_some (pv 3)))) pa_nil)))
(pss_one (ps_if (PW.pt (pw_or (pt_cmpR (k_lt (K := K) rfl hr) (pv 4) (pv 1) (nomark _)) (pw_or (PW.pt (pw_and (pt_cmpR (k_lt (K := K) rfl hr) (pv 3) (pv 2) (nomark _)) (pw_and1 (pt_cmpR (k_eq (K := K) rfl hr) (pv 4) (pv 1) (nomark _))))) (pw_or1 (PW.pt (pw_and (pt_cmpR (k_eq (K := K) rfl hr) (pv 3) (pv 2) (nomark _)) (pw_and1 (pt_cmpR (k_ne (K := K) rfl hr) (pv 4) (pv 1) (nomark _)))))))))
(pss_one (ps_ret pe_bl))
pss_nil))))
(pss_one (ps_ret (pe_chain op_le op_le (pe_callJ D_any_cost hr (pa_cons (pv 0) pa_nil)) (pv 1) (pe_callJ D_least_cost hr (pa_cons (pv 0) pa_nil))))))
, fun as μ k g Q h hM hR => ?_⟩
  obtain ⟨ns, c, p, rfl, rfl, h1, h24, hr', hk⟩ := h
  have hl : (ns.map PyData.int).length = ns.length := List.length_map ..
  repeat (walk_at "j")
  refine go_for [3] (iv_range0 ?_)
  repeat (walk_at "j")
  refine ⟨by omega, by omega, fun i ρ' μ' => ∃ x3 x4, ρ' = [some (.im (encH ns)), some (.im (.int c)), some (.im (.int p)), x3, x4] ∧ μ' = [], ⟨_, _, rfl, rfl⟩, fun i x ρ' μ' hx ⟨x3, x4, e1, e2⟩ => ⟨trivial, fun gh => ?_⟩, fun ρ' μ' ⟨x3, x4, e1, e2⟩ => ⟨trivial, ?_⟩⟩
  · obtain ⟨hi, rfl⟩ := nats_get hx
    have hi : i < ns.length := by omega
    subst e1 e2
    refine tg_name (by decide) ?_
    repeat (walk_at "j")
    refine ev_callP ?_
    repeat (walk_at "j")
    rw [cut_from (by rw [hl]; omega), cut_upto (by rw [hl]; omega)]
    refine rv_catT (by rw [List.length_drop, List.length_take, hl]; exact Nat.le_trans (m := 48) (by omega) (by decide)) (eva_nil ⟨rot ns i, ?_, rfl, by rw [rot_len]; exact h1, by rw [rot_len]; exact h24, ?_⟩)
    · unfold encH rot
      rw [List.map_append, List.map_drop, List.map_take]
    have q1 := hr'.le i hi
    repeat (walk_at "j")
    refine evt_or (evt_test ?_)
    repeat (walk_at "j")
    refine ⟨fun hb => absurd (of_decide_eq_true hb) (by omega), fun _ => ?_⟩
    refine evt_or (evt_and (evt_test ?_))
    repeat (walk_at "j")
    refine ⟨fun hb => evt_test ?_, fun _ => ⟨fun hb => (nomatch hb), fun _ => evt_and (evt_test ?_)⟩⟩
    · have hb := of_decide_eq_true hb
      have q2 := hr'.first i (by omega)
      repeat (walk_at "j")
      refine ⟨fun hb => absurd (of_decide_eq_true hb) q2, fun _ => evt_and (evt_test ?_)⟩
      repeat (walk_at "j")
      refine ⟨fun hb => absurd (of_decide_eq_true hb) (by omega), fun _ => ⟨fun hb => (nomatch hb), fun _ => ?_⟩⟩
      repeat (walk_at "j")
      refine nxt_nxw ?_ (Fg.refl _) (.refl _)
      exact ⟨_, _, rfl, rfl⟩
    · repeat (walk_at "j")
      refine ⟨fun hb => evt_test ?_, fun _ => ⟨fun hb => (nomatch hb), fun _ => ?_⟩⟩
      · have hb := of_decide_eq_true hb
        have e : i = p := by omega
        subst e
        have q3 := hr'.at_
        repeat (walk_at "j")
        refine ⟨fun hb => ?_, fun _ => ?_⟩
        · rw [decide_eq_true q3] at hb
          cases hb
        · repeat (walk_at "j")
          refine nxt_nxw ?_ (Fg.refl _) (.refl _)
          exact ⟨_, _, rfl, rfl⟩
      · repeat (walk_at "j")
        refine nxt_nxw ?_ (Fg.refl _) (.refl _)
        exact ⟨_, _, rfl, rfl⟩
  · subst e1 e2
    repeat (walk_at "j")
    refine ev_chain ?_
    refine ev_callP ?_
    repeat (walk_at "j")
    refine ⟨ns, rfl, rfl, h1, h24, fun y hy => ?_⟩
    repeat (walk_at "j")
    refine ⟨fun _ => ?_, fun hb => absurd (of_decide_eq_false hb) (by have := low_ring hr' hy; omega)⟩
    refine ev_callP ?_
    repeat (walk_at "j")
    refine ⟨ns, rfl, rfl, h1, h24, ?_⟩
    refine rv_b0 ?_
    rw [decide_eq_true (ring_self hr')]
    exact hk
theorem ok__law_others_right (T : Txt mg) (D__law_draw : Def P w K mg base "_law_draw" ["deck", "most"] 1 (SpR preDraw)) (D_ring_cost : Def P w K mg base "ring_cost" ["heaps"] 3 (SpR preRing)) (F : Fun K "_law_others_right" "_law_others_right" s__law_others_right f fd) : FnOk P w K mg base CX0 4 f fd ["deck", "heaps", "cost", "place"] (SpR preOthers) := by
  refine fn_ok F sc__law_others_right (fun as μ k h => by obtain ⟨a, g, m, t, ns, c, p, rfl, _⟩ := h; rfl) fun cdv A outer s H E hr => ⟨_,
(pss_cons (ps_set (i := 4) sc__law_others_right.nd rfl (by first | exact Or.inl rfl | exact Or.inr rfl) (pe_callJ D__law_draw hr (pa_cons (pv 0) (pa_cons (pe_callB (k_len (K := K) rfl) (by rfl) T.len bt_len (pa_cons (pv 1) pa_nil)) pa_nil))))
(pss_cons (ps_set (i := 5) sc__law_others_right.nd rfl (by first | exact Or.inl rfl | exact Or.inr rfl) (pe_op (k_plus (K := K) rfl) (pe_slice (k_sl (K := K) rfl) (pv 1) (po_some (pv 4)) po_none) (pe_slice (k_sl (K := K) rfl) (pv 1) po_none (po_some (pv 4)))))
(pss_cons (ps_if (PW.pt (pw_or (pt_cmpR (k_ne (K := K) rfl hr) (pe_ix (k_ix (K := K) rfl) (pe_callJ D_ring_cost hr (pa_cons (pv 5) pa_nil)) pe_int (fun _ _ => rfl)) (pv 2) (nomark _)) (pw_or1 (pt_cmpR (k_ne (K := K) rfl hr) (pe_ix (k_ix (K := K) rfl) (pe_callJ D_ring_cost hr (pa_cons (k_rev (K := K) rfl (pv 1)) pa_nil)) pe_int (fun _ _ => rfl)) (pv 2) (nomark _)))))
(pss_one (ps_ret pe_bl))
pss_nil)
(Evl.pss_cut (ps_if (pt_cmpR (k_lt (K := K) rfl hr) (pe_callB (k_max (K := K) rfl rfl) (by rfl) T.max bt_max (pa_cons (pv 1) pa_nil)) (pe_op op_pow pe_int pe_int) (nomark _))
(pss_cons (ps_set (i := 6) sc__law_others_right.nd rfl (by first | exact Or.inl rfl | exact Or.inr rfl) (pe_op (k_plus (K := K) rfl) pe_int (pe_callJ D__law_draw hr (pa_cons (pv 0) (pa_cons pe_int pa_nil)))))
(pss_one (ps_if (pt_cmpR (k_ne (K := K) rfl hr) (pe_callJ D_ring_cost hr (pa_cons (pe_callTy (k_tuple (K := K) rfl) (by rfl) T.tuple bt_tuple (pa_cons (pe_lc (own := [("weight", 9)]) (g := gName 9) (tt := tYes) rfl sc__law_others_right.nd (k_seq (K := K) rfl (pv 1)) (blkOk_by (N := N__law_others_right) (sc := defScope s__law_others_right) (by decide +kernel)) (fun _ _ _ _ _ => (pg_name (i := 9) sc__law_others_right.nd rfl (by first | exact Or.inl rfl | exact Or.inr rfl))) (fun _ _ _ _ _ => pts_nil) (fun _ _ _ _ _ => (pe_op op_times (pv 9) (pv 6)))) pa_nil)) pa_nil)) (pe_tup (pa_cons (pe_op op_times (pv 2) (pv 6)) (pa_cons (pv 3) pa_nil))) (nomark _))
(pss_one (ps_ret pe_bl))
pss_nil)))
pss_nil)
(pss_cons (ps_if (pt_cmpR op_gt (pe_callB (k_len (K := K) rfl) (by rfl) T.len bt_len (pa_cons (pv 1) pa_nil)) pe_int (nomark _))
(pss_one (ps_ret pe_bl))
pss_nil)
(pss_cons (ps_set (i := 7) sc__law_others_right.nd rfl (by first | exact Or.inl rfl | exact Or.inr rfl) (pe_callJ D__law_draw hr (pa_cons (pv 0) (pa_cons (pe_op (k_plus (K := K) rfl) (pe_callB (k_len (K := K) rfl) (by rfl) T.len bt_len (pa_cons (pv 1) pa_nil)) pe_int) pa_nil))))
(pss_cons (ps_set (i := 8) sc__law_others_right.nd rfl (by first | exact Or.inl rfl | exact Or.inr rfl) (pe_ix (k_ix (K := K) rfl) (pe_callJ D_ring_cost hr (pa_cons (pe_op (k_plus (K := K) rfl) (pe_op (k_plus (K := K) rfl) (pe_slice (k_sl (K := K) rfl) (pv 1) po_none (po_some (pv 7))) (pe_tup (pa_cons pe_int pa_nil))) (pe_slice (k_sl (K := K) rfl) (pv 1) (po_some (pv 7)) po_none)) pa_nil)) pe_int (fun _ _ => rfl)))
(pss_one (ps_ret (pe_chain op_le op_le (pv 2) (pv 8) (pe_op (k_plus (K := K) rfl) (pv 2) (pe_callB (k_min (K := K) rfl rfl hr) (by rfl) T.min bt_min (pa_cons (pe_ix (k_ix (K := K) rfl) (pv 1) (pe_op op_sub (pv 7) pe_int) (fun _ _ => rfl)) (pa_cons (pe_ix (k_ix (K := K) rfl) (pe_op (k_plus (K := K) rfl) (pv 1) (pv 1)) (pv 7) (fun _ _ => rfl)) pa_nil))))))))))))))
, fun as μ k g Q h hM hR => ?_⟩
  obtain ⟨a, g0, m, t, ns, c, p, rfl, rfl, h0, h1, h2, h3, h4, h5, hr', hk⟩ := h
  repeat (walk_at "j")
  have hl : (ns.map PyData.int).length = ns.length := List.length_map ..
  refine ev_call1 ?_
  repeat (walk_at "j")
  refine ⟨_, [], rfl, a, g0, m, t, _, rfl, rfl, h0, by omega, by omega, by omega, by omega, fun by_ g1 b1 b2 hg1 => ?_⟩
  obtain ⟨j, rfl⟩ := Int.eq_ofNat_of_zero_le b1
  repeat (walk_at "j")
  rw [cut_from (by rw [hl]; omega), cut_upto (by rw [hl]; omega)]
  refine rv_catT (by rw [List.length_drop, List.length_take, hl]; exact Nat.le_trans (m := 48) (by omega) (by decide)) ?_
  rw [show (ns.map PyData.int).drop j ++ (ns.map PyData.int).take j = (rot ns j).map .int by unfold rot; rw [List.map_append, List.map_drop, List.map_take]]
  repeat (walk_at "j")
  refine evt_or (evt_test ?_)
  repeat (walk_at "j")
  refine ev_callP ?_
  repeat (walk_at "j")
  refine ⟨rot ns j, rfl, rfl, by rw [rot_len]; exact h3, by rw [rot_len]; exact h4, fun c1 p1 hc1 => ?_⟩
  have e1 := ring_rot hr' (by omega) hc1
  repeat (walk_at "j")
  refine ⟨fun hb => absurd hb (by rw [decide_eq_true e1]; exact Bool.false_ne_true), fun _ => evt_test ?_⟩
  repeat (walk_at "j")
  refine ev_callP ?_
  repeat (walk_at "j")
  refine ev_revA ?_
  repeat (walk_at "j")
  refine .inr ⟨_, rfl, eva_nil ?_⟩
  rw [← List.map_reverse]
  refine ⟨ns.reverse, rfl, rfl, by rw [List.length_reverse]; exact h3, by rw [List.length_reverse]; exact h4, fun c2 p2 hc2 => ?_⟩
  have e2 := ring_rev hr' hc2
  repeat (walk_at "j")
  refine ⟨fun hb => absurd hb (by rw [decide_eq_true e2]; exact Bool.false_ne_true), fun _ => ?_⟩
  repeat (walk_at "j")
  refine go_cut (fun ρ' μ' => ∃ (g' t' : Int) (x6 x7 x8 x9 : Option SD), ρ' = [some (.mt a), some (.im (encH ns)), some (.im (.int c)), some (.im (.int p)), some (.im (.int j)), some (.im (.tuple ((rot ns j).map .int))), x6, x7, x8, x9] ∧ μ' = [deckC a g' m t'] ∧ 0 ≤ g' ∧ t ≤ t' ∧ t' ≤ t + 2) ?_ fun ρ' μ' hP => ?_
  · repeat (walk_at "j")
    refine rc_max (qv_tupI ns) (by omega) fun mx hm1 hm2 => ?_
    repeat (walk_at "j")
    refine ⟨fun hb => ?_, fun _ => ?_⟩
    · have hb := of_decide_eq_true hb
      have h10 : (10 : Int) ^ (10 : Int).toNat = 10000000000 := by decide
      rw [h10] at hb
      repeat (walk_at "j")
      refine ev_call1 ?_
      repeat (walk_at "j")
      refine ⟨_, [], rfl, a, g1, m, t + 1, 98, rfl, rfl, hg1, by decide, by decide, by omega, by omega, fun r g2 ra rb hg2 => ?_⟩
      repeat (walk_at "j")
      refine ev_callP ?_
      repeat (walk_at "j")
      refine ev_mapX (Gd := free) (fun z : Int => .im (.int z)) (fun z => .int (z * (2 + r))) ns (fun ki q => iv_tup ?_) trivial (Nat.lt_of_lt_of_le (m := 48) (by omega) (by decide)) (fun z hz => tg_name (by decide) ?_) ?_
      · repeat (walk_at "j")
        rw [imInts]
        exact q
      · have := hm2 z hz
        have := h5 z hz
        repeat (walk_at "j")
        exact ⟨rfl, rfl⟩
      refine eva_nil (rc_tuple (.d _) (eva_nil ⟨ns.map (· * (2 + r)), ?_, rfl, by rw [List.length_map]; exact h3, by rw [List.length_map]; exact h4, fun c3 p3 hc3 => ?_⟩))
      · unfold encH
        rw [List.map_map]
        rfl
      obtain ⟨e3, e4⟩ := ring_times hr' (by omega) hc3
      subst e3 e4
      repeat (walk_at "j")
      refine rv_neD (.d _) (.d _) (shaped_of rfl (by simp only [PyData.depth, PyData.depthAll]; omega)) (shaped_of rfl (by simp only [PyData.depth, PyData.depthAll]; omega)) ?_
      refine ⟨_, rfl, fun hb => ?_, fun _ => ?_⟩
      · simp [PyData.eqv, PyData.eqvAll] at hb
      · repeat (walk_at "j")
        refine nxt_nxw ?_ (Fg.refl _) (.refl _)
        exact ⟨g2, t + 1 + 1, _, _, _, _, rfl, rfl, hg2, by omega, by omega⟩
    · repeat (walk_at "j")
      refine nxt_nxw ?_ (Fg.refl _) (.refl _)
      exact ⟨g1, t + 1, _, _, _, _, rfl, rfl, hg1, by omega, by omega⟩
  obtain ⟨g2, t2, x6, x7, x8, x9, rfl, rfl, hg2, t2a, t2b⟩ := hP
  repeat (walk_at "j")
  refine ⟨fun hb => ?_, fun hb => ?_⟩
  · repeat (walk_at "j")
    exact hk g2 t2 hg2 t2a (by omega)
  have hb := of_decide_eq_false hb
  repeat (walk_at "j")
  refine ev_call1 ?_
  repeat (walk_at "j")
  refine ⟨_, [], rfl, a, g2, m, t2, _, rfl, rfl, hg2, by omega, by omega, by omega, by omega, fun at_ g3 ra rb hg3 => ?_⟩
  obtain ⟨j2, rfl⟩ := Int.eq_ofNat_of_zero_le ra
  repeat (walk_at "j")
  refine ev_callP ?_
  repeat (walk_at "j")
  rw [cut_upto (by rw [hl]; omega)]
  refine rv_catT (by rw [List.length_take, hl]; exact Nat.le_trans (m := 48) (by simp only [List.length_cons, List.length_nil]; omega) (by decide)) ?_
  repeat (walk_at "j")
  rw [cut_from (by rw [hl]; omega)]
  refine rv_catT (by rw [List.length_append, List.length_take, List.length_drop, hl]; exact Nat.le_trans (m := 48) (by simp only [List.length_cons, List.length_nil]; omega) (by decide)) ?_
  have hz : (ns.take j2 ++ [0] ++ ns.drop j2).length = ns.length + 1 := by
    simp only [List.length_append, List.length_take, List.length_drop, List.length_cons, List.length_nil]
    omega
  refine eva_nil ⟨ns.take j2 ++ [0] ++ ns.drop j2, ?_, rfl, by omega, by omega, fun c4 p4 hc4 => ?_⟩
  · unfold encH
    rw [List.map_append, List.map_append, List.map_take, List.map_drop]
    rfl
  obtain ⟨z1, z2, z3⟩ := ring_zero hr' h5 (by omega) hc4
  repeat (walk_at "j")
  refine ev_chain ?_
  repeat (walk_at "j")
  refine ⟨fun _ => ?_, fun hb => absurd (of_decide_eq_false hb) (by omega)⟩
  repeat (walk_at "j")
  refine rv_ixT (at_before (by omega) (by omega)) ?_
  repeat (walk_at "j")
  refine rv_catT (by rw [hl]; exact Nat.le_trans (m := 48) (by omega) (by decide)) ?_
  repeat (walk_at "j")
  refine rv_ixT (at_behind (by omega) (by omega)) ?_
  repeat (walk_at "j")
  rw [decide_eq_true (by split <;> omega)]
  exact hk g3 (t2 + 1) hg3 (by omega) (by omega)
def preLaw (K0 : PySem.W.Frag) (as : List SD) (μ : Store) (k : SD → Store → Prop) : Prop := ∃ ns P, as = [.sc ns P] ∧ μ = [] ∧ (∀ a H, P a → SqL K0 H a (ns.map V.int)) ∧ (∀ z ∈ ns, Builtin.Int.intBits z ≤ 1048576) ∧ ns.length ≤ 63 ∧ k (.im (.bool true)) []
theorem ok_law (T : Txt mg) (D__law_deck : Def P w K mg base "_law_deck" ["script"] 1 (SpR (preDeck K))) (D__law_heaps : Def P w K mg base "_law_heaps" ["deck", "most"] 3 (SpR preHeaps)) (D_ring_cost : Def P w K mg base "ring_cost" ["heaps"] 3 (SpR preRing))
    (D__law_places_right : Def P w K mg base "_law_places_right" ["heaps", "cost", "place"] 3 (SpR prePlaces)) (D__law_others_right : Def P w K mg base "_law_others_right" ["deck", "heaps", "cost", "place"] 4 (SpR preOthers)) (F : Fun K "law" "law" s_law f fd) : FnOk P w K mg base CX0 5 f fd ["script"] (SpR (preLaw K)) := by
  refine fn_ok F sc_law (fun as μ k h => by obtain ⟨ns, P, rfl, _⟩ := h; rfl) fun cdv A outer s H E hr => ⟨_,
(pss_cons (ps_set (i := 1) sc_law.nd rfl (by first | exact Or.inl rfl | exact Or.inr rfl) (pe_callJ D__law_deck hr (pa_cons (pv 0) pa_nil)))
(pss_cons (ps_for PassesOwn.never rfl (pi_range1 (by rfl) T.range (pa_cons pe_int pa_nil)) (pg_name (i := 2) sc_law.nd rfl (by first | exact Or.inl rfl | exact Or.inr rfl))
(pss_cons (ps_set (i := 3) sc_law.nd rfl (by first | exact Or.inl rfl | exact Or.inr rfl) (pe_callJ D__law_heaps hr (pa_cons (pv 1) (pa_cons (pe_ix (k_ix (K := K) rfl) (pe_lst (pa_cons pe_int (pa_cons pe_int (pa_cons pe_int pa_nil)))) (pv 2) (fun _ _ => rfl)) pa_nil))))
(pss_cons (ps_asg (pe_callJ D_ring_cost hr (pa_cons (pv 3) pa_nil)) (k_tup (K := K) rfl rfl (pgs_cons (pg_name (i := 4) sc_law.nd rfl (by first | exact Or.inl rfl | exact Or.inr rfl)) (pgs_cons (pg_name (i := 5) sc_law.nd rfl (by first | exact Or.inl rfl | exact Or.inr rfl)) pgs_nil))))
(pss_cons (ps_if (PW.pt (pw_or (pt_not (pt_chain op_le (k_lt (K := K) rfl hr) pe_int (pv 5) (pe_callB (k_len (K := K) rfl) (by rfl) T.len bt_len (pa_cons (pv 3) pa_nil)))) (pw_or1 (pt_not (pt_val (pe_callJ D__law_places_right hr (pa_cons (pv 3) (pa_cons (pv 4) (pa_cons (pv 5) pa_nil)))))))))
(pss_one (ps_ret pe_bl))
pss_nil)
(pss_one (ps_if (pt_not (pt_val (pe_callJ D__law_others_right hr (pa_cons (pv 1) (pa_cons (pv 3) (pa_cons (pv 4) (pa_cons (pv 5) pa_nil)))))))
(pss_one (ps_ret pe_bl))
pss_nil))))))
(pss_one (ps_ret pe_bl))))
, fun as μ k g Q h hM hR => ?_⟩
  obtain ⟨ns, P, rfl, rfl, hP, hb, hl, hk⟩ := h
  replace hR := hR.drop
  repeat (walk_at "j")
  refine ev_callP ?_
  repeat (walk_at "j")
  refine ⟨ns, P, rfl, rfl, hP, hb, hl, fun a g1 m hg1 => ?_⟩
  repeat (walk_at "j")
  refine go_for [2] (iv_range0 ?_)
  repeat (walk_at "j")
  refine ⟨by decide, by decide, fun i ρ' μ' => ∃ (g' t' : Int) (x2 x3 x4 x5 : Option SD), ρ' = [some (.sc ns P), some (.mt a), x2, x3, x4, x5] ∧ μ' = [deckC a g' m t'] ∧ 0 ≤ g' ∧ 0 ≤ t' ∧ t' ≤ 70 * (i : Int), ⟨g1, 0, _, _, _, _, rfl, rfl, hg1, by decide, by decide⟩, fun i x ρ' μ' hx ⟨g2, t2, x2, x3, x4, x5, e1, e2, e3, e4, e5⟩ => ⟨trivial, fun gh => ?_⟩, fun ρ' μ' ⟨g2, t2, x2, x3, x4, x5, e1, e2, e3, e4, e5⟩ => ⟨trivial, ?_⟩⟩
  · obtain ⟨hi, rfl⟩ := nats_get hx
    subst e1 e2
    have hi : i < 3 := hi
    refine tg_name (by decide) ?_
    repeat (walk_at "j")
    have pick : ∃ most : Nat, atI [PyData.int 24, .int 9, .int 5] (i : Int) = some (.int most) ∧ 1 ≤ most ∧ most ≤ 24 := by
      have : i = 0 ∨ i = 1 ∨ i = 2 := by omega
      rcases this with rfl | rfl | rfl
      · exact ⟨24, atI_at (i := 0) rfl rfl, by decide, by decide⟩
      · exact ⟨9, atI_at (i := 1) rfl rfl, by decide, by decide⟩
      · exact ⟨5, atI_at (i := 2) rfl rfl, by decide, by decide⟩
    obtain ⟨most, ep, m1, m2⟩ := pick
    refine ev_call1 ?_
    repeat (walk_at "j")
    refine ev_lst3 ?_
    repeat (walk_at "j")
    refine rv_ixL ep (eva_nil ?_)
    refine ⟨_, [], rfl, a, g2, m, t2, most, rfl, rfl, e3, e4, by omega, m1, m2, fun hs g3 t3 n1 n2 n3 hg3 t3a t3b => ?_⟩
    have hls : (hs.map PyData.int).length = hs.length := List.length_map ..
    repeat (walk_at "j")
    refine go_tgt [4, 5] ?_
    refine ev_callP ?_
    repeat (walk_at "j")
    refine ⟨hs, rfl, rfl, n1, by omega, fun c p hr' => ?_⟩
    refine tg_tup (ds := [_, _]) rfl (tgs_cons (tg_name (by decide) (tgs_cons (tg_name (by decide) (tgs_nil ?_)))))
    repeat (walk_at "j")
    refine evt_or (evt_not (evt_test (ev_chain ?_)))
    repeat (walk_at "j")
    refine ⟨fun _ => ?_, fun hb => absurd (of_decide_eq_false hb) (by omega)⟩
    repeat (walk_at "j")
    have hlt := hr'.lt
    refine ⟨fun hb => absurd hb (by rw [decide_eq_true (by omega)]; exact Bool.false_ne_true.symm ∘ Eq.symm), fun _ => evt_not (evt_B ?_)⟩
    refine ev_callP ?_
    repeat (walk_at "j")
    refine ⟨hs, c, p, rfl, rfl, n1, by omega, hr', _, rfl, fun hb => (nomatch hb), fun _ => ?_⟩
    repeat (walk_at "j")
    refine evt_B ?_
    refine ev_call1 ?_
    repeat (walk_at "j")
    refine ⟨_, [], rfl, a, g3, m, t3, hs, c, p, rfl, rfl, hg3, by omega, by omega, n1, by omega, n3, hr', fun g4 t4 hg4 t4a t4b => ?_⟩
    refine ⟨_, rfl, fun hb => (nomatch hb), fun _ => ?_⟩
    repeat (walk_at "j")
    refine nxt_nxw ?_ (Fg.refl _) (.refl _)
    exact ⟨g4, t4, _, _, _, _, rfl, rfl, hg4, by omega, by omega⟩
  · subst e1 e2
    repeat (walk_at "j")
    exact ⟨[], List.nil_sublist _, hk⟩
end
end J
namespace J
open PySem PySem.Spec PyProof.Rows L2
local macro_rules | `(tactic| walk_at "side") => `(tactic| first
  | (show (0 : Int) < _; omega) | omega | exact ⟨by omega, by omega⟩ | exact Or.inl ⟨by omega, by omega⟩ | exact Or.inr ⟨by omega, by omega⟩ | exact ⟨by decide, by decide, by decide⟩ | (refine ⟨?_, ?_, ?_, ?_⟩ <;> omega) | (show _ ≤ sizeLine; simp only [List.length_cons, List.length_nil]; decide) | decide | assumption)
local macro_rules | `(tactic| walk_at "mem") => `(tactic| first | exact List.mem_cons_self | exact List.mem_cons_of_mem _ List.mem_cons_self | exact List.mem_cons_of_mem _ (List.mem_cons_of_mem _ List.mem_cons_self))
local macro_rules | `(tactic| walk_at "j") => `(tactic| first
  | with_reducible refine ev_op ?_ | with_reducible refine ev_un ?_ | with_reducible refine ev_int ?_ | with_reducible refine ev_bl ?_ | with_reducible refine ev_str ?_ | with_reducible refine ev_non ?_ | with_reducible refine ev_cb ?_ | with_reducible refine eva_nil ?_ | with_reducible refine eva_cons ?_
  | ((with_reducible refine' ev_var ?h1 ?_); (case h1 => rfl))
  | with_reducible refine rv_plus ?_ | with_reducible refine rv_lt ?_ | with_reducible refine rv_eqI ?_ | with_reducible refine rv_neI ?_
  | ((with_reducible refine' rv_times ?h1 ?_); (case h1 => walk_at "side"))
  | with_reducible refine rv_i0 ?_ | with_reducible refine rv_b0 ?_ | ((with_reducible refine' rv_i ?h1 ?_); (case h1 => walk_at "side")) | with_reducible refine ru_i ?_
  | ((with_reducible refine' rv_ixT ?h1 ?_); (case h1 => rfl)) | ((with_reducible refine' rv_ixL ?h1 ?_); (case h1 => rfl)) | ((with_reducible refine' rv_ixC ?h1 ?h2 ?_); (case h1 => walk_at "mem"); (case h2 => rfl))
  | with_reducible refine ev_sl ?_ | with_reducible refine evo_none ?_ | with_reducible refine evo_some ?_ | with_reducible refine rs_tup ?_ | with_reducible refine rs_listD ?_
  | with_reducible refine rc_lenT ?_ | with_reducible refine rc_lenL ?_ | ((with_reducible refine' rc_lenC ?h1 ?_); (case h1 => walk_at "mem")) | with_reducible refine rc_abs ?_ | with_reducible refine rc_min2 ?_ | with_reducible refine rc_max2 ?_
  | with_reducible refine ev_tup1 ?_ | with_reducible refine ev_tup2 ?_ | with_reducible refine ev_tup3 ?_
  | with_reducible refine evt_not ?_ | with_reducible refine evt_test ?_
  | ((with_reducible refine' rs_setL 0 ?h1 ?h2 ?_); (case h1 => rfl); (case h2 => rfl))
  | with_reducible refine ⟨_, rfl, ?_⟩
  | with_reducible refine ⟨_, _, rfl, rfl, ?_⟩ | with_reducible refine ⟨_, _, _, rfl, rfl, rfl, ?_⟩
  | with_reducible refine go_if ?_
  | with_reducible refine go_seq ?_ | with_reducible refine go_asg ?_ | with_reducible refine go_sub ?_ | with_reducible refine nxt_seq ?_ | with_reducible refine nxt_ret ?_ | with_reducible refine nxt_asg ?_ | with_reducible refine nxt_if ?_ | with_reducible refine nxt_for ?_ | with_reducible refine nxt_while ?_ | with_reducible refine nxt_drop ?_ | with_reducible refine nxt_cut ?_ | with_reducible refine nxt_aug ?_ | with_reducible refine nxt_next ?_ | with_reducible refine go_next ?_ | with_reducible refine go_drop ?_ | (with_reducible refine go_ret (by assumption) ?_))
theorem top_start {K : PySem.W.Frag} {H : Hp} {a : Addr} {ns : List Int} (hl : ns.length ≤ 63) (hb : ∀ z ∈ ns, Builtin.Int.intBits z ≤ 1048576) (hO : Only H) (hS : SqL K H a (ns.map V.int)) : SpR (preLaw K) [.ref a] H (fun v _ => v = .bl true) fun _ _ _ => False := by
  have core : Core (fun _ => False) [] H := ⟨fun p hp => (nomatch hp), fun p hp => (nomatch hp), List.nodup_nil, fun a h => h.elim⟩
  have fin : Post (fun _ => False) [] H (fun r _ => r = .im (.bool true)) (fun v _ => v = .bl true) := fun r μ' v S' H' e _ _ sv => by
    subst e
    cases sv
    rfl
  rcases hS with hS | hS
  · refine ⟨fun _ => False, [], [.sc ns fun _ => False], fun r _ => r = .im (.bool true), .cons ⟨a, rfl, .inr ⟨fun z => z, ?_⟩⟩ .nil, core, ⟨ns, _, rfl, rfl, fun _ _ z => z.elim, hb, hl, rfl⟩, fin⟩
    rcases hS with hS | hS
    · rcases hO a with z | ⟨o, xs, z⟩
      · rw [hS] at z; cases z
      · rw [hS] at z; cases z
    · exact hS
  · exact ⟨fun _ => False, [], [.sc ns fun b => b = a], fun r _ => r = .im (.bool true), .cons ⟨a, rfl, .inl rfl⟩ .nil, core, ⟨ns, _, rfl, rfl, fun b _ e => by rw [e]; exact .inr hS, hb, hl, rfl⟩, fin⟩
abbrev spTop (K : PySem.W.Frag) : Sp := SpR (preLaw K)
theorem all_mk {l : PySem.W.OpenLaw} {w : World} {K : PySem.W.Frag} {h : Heap} {mg : Str → Option Value} {fa : Addr} (X : K.In h) (G : h.Ns mainGlobals mg) (hfa : mg "law" = some (.ref fa))
    {f0 : Addr} {od0 an0 : Option Addr} {sl0 : Array (Option Value)} {oc0 kV0 dc0 pm0 cd0 ct0 : Value}
    {f1 : Addr} {od1 an1 : Option Addr} {sl1 : Array (Option Value)} {oc1 kV1 dc1 pm1 cd1 ct1 : Value}
    {f2 : Addr} {od2 an2 : Option Addr} {sl2 : Array (Option Value)} {oc2 kV2 dc2 pm2 cd2 ct2 : Value}
    {f3 : Addr} {od3 an3 : Option Addr} {sl3 : Array (Option Value)} {oc3 kV3 dc3 pm3 cd3 ct3 : Value}
    {f4 : Addr} {od4 an4 : Option Addr} {sl4 : Array (Option Value)} {oc4 kV4 dc4 pm4 cd4 ct4 : Value}
    {f5 : Addr} {od5 an5 : Option Addr} {sl5 : Array (Option Value)} {oc5 kV5 dc5 pm5 cd5 ct5 : Value}
    {f6 : Addr} {od6 an6 : Option Addr} {sl6 : Array (Option Value)} {oc6 kV6 dc6 pm6 cd6 ct6 : Value}
    {f7 : Addr} {od7 an7 : Option Addr} {sl7 : Array (Option Value)} {oc7 kV7 dc7 pm7 cd7 ct7 : Value}
    {f8 : Addr} {od8 an8 : Option Addr} {sl8 : Array (Option Value)} {oc8 kV8 dc8 pm8 cd8 ct8 : Value}
    {f9 : Addr} {od9 an9 : Option Addr} {sl9 : Array (Option Value)} {oc9 kV9 dc9 pm9 cd9 ct9 : Value}
    {f10 : Addr} {od10 an10 : Option Addr} {sl10 : Array (Option Value)} {oc10 kV10 dc10 pm10 cd10 ct10 : Value}
    (a0 : PySem.W.nsIn K mainGlobals "best_by_stretches" = some (some (.ref f0))) (l0 : K.lookup f0 = some ⟨oc0, od0, .func (PySem.W.fnOf "best_by_stretches" "best_by_stretches" (defArgs s_best_by_stretches) (defBody s_best_by_stretches) (defScope s_best_by_stretches) .none kV0 dc0 pm0 an0 cd0 ct0), sl0⟩) (c0 : PySem.W.codeIn K cd0 "best_by_stretches" = true) (k0 : PySem.W.keepIn K (.ref f0) = true)
    (a1 : PySem.W.nsIn K mainGlobals "least_cost" = some (some (.ref f1))) (l1 : K.lookup f1 = some ⟨oc1, od1, .func (PySem.W.fnOf "least_cost" "least_cost" (defArgs s_least_cost) (defBody s_least_cost) (defScope s_least_cost) .none kV1 dc1 pm1 an1 cd1 ct1), sl1⟩) (c1 : PySem.W.codeIn K cd1 "least_cost" = true) (k1 : PySem.W.keepIn K (.ref f1) = true)
    (a2 : PySem.W.nsIn K mainGlobals "ring_cost" = some (some (.ref f2))) (l2 : K.lookup f2 = some ⟨oc2, od2, .func (PySem.W.fnOf "ring_cost" "ring_cost" (defArgs s_ring_cost) (defBody s_ring_cost) (defScope s_ring_cost) .none kV2 dc2 pm2 an2 cd2 ct2), sl2⟩) (c2 : PySem.W.codeIn K cd2 "ring_cost" = true) (k2 : PySem.W.keepIn K (.ref f2) = true)
    (a3 : PySem.W.nsIn K mainGlobals "any_cost" = some (some (.ref f3))) (l3 : K.lookup f3 = some ⟨oc3, od3, .func (PySem.W.fnOf "any_cost" "any_cost" (defArgs s_any_cost) (defBody s_any_cost) (defScope s_any_cost) .none kV3 dc3 pm3 an3 cd3 ct3), sl3⟩) (c3 : PySem.W.codeIn K cd3 "any_cost" = true) (k3 : PySem.W.keepIn K (.ref f3) = true)
    (a4 : PySem.W.nsIn K mainGlobals "_law_deck" = some (some (.ref f4))) (l4 : K.lookup f4 = some ⟨oc4, od4, .func (PySem.W.fnOf "_law_deck" "_law_deck" (defArgs s__law_deck) (defBody s__law_deck) (defScope s__law_deck) .none kV4 dc4 pm4 an4 cd4 ct4), sl4⟩) (c4 : PySem.W.codeIn K cd4 "_law_deck" = true) (k4 : PySem.W.keepIn K (.ref f4) = true)
    (a5 : PySem.W.nsIn K mainGlobals "_law_draw" = some (some (.ref f5))) (l5 : K.lookup f5 = some ⟨oc5, od5, .func (PySem.W.fnOf "_law_draw" "_law_draw" (defArgs s__law_draw) (defBody s__law_draw) (defScope s__law_draw) .none kV5 dc5 pm5 an5 cd5 ct5), sl5⟩) (c5 : PySem.W.codeIn K cd5 "_law_draw" = true) (k5 : PySem.W.keepIn K (.ref f5) = true)
    (a6 : PySem.W.nsIn K mainGlobals "_law_weights" = some (some (.ref f6))) (l6 : K.lookup f6 = some ⟨oc6, od6, .func (PySem.W.fnOf "_law_weights" "_law_weights" (defArgs s__law_weights) (defBody s__law_weights) (defScope s__law_weights) .none kV6 dc6 pm6 an6 cd6 ct6), sl6⟩) (c6 : PySem.W.codeIn K cd6 "_law_weights" = true) (k6 : PySem.W.keepIn K (.ref f6) = true)
    (a7 : PySem.W.nsIn K mainGlobals "_law_heaps" = some (some (.ref f7))) (l7 : K.lookup f7 = some ⟨oc7, od7, .func (PySem.W.fnOf "_law_heaps" "_law_heaps" (defArgs s__law_heaps) (defBody s__law_heaps) (defScope s__law_heaps) .none kV7 dc7 pm7 an7 cd7 ct7), sl7⟩) (c7 : PySem.W.codeIn K cd7 "_law_heaps" = true) (k7 : PySem.W.keepIn K (.ref f7) = true)
    (a8 : PySem.W.nsIn K mainGlobals "_law_places_right" = some (some (.ref f8))) (l8 : K.lookup f8 = some ⟨oc8, od8, .func (PySem.W.fnOf "_law_places_right" "_law_places_right" (defArgs s__law_places_right) (defBody s__law_places_right) (defScope s__law_places_right) .none kV8 dc8 pm8 an8 cd8 ct8), sl8⟩) (c8 : PySem.W.codeIn K cd8 "_law_places_right" = true) (k8 : PySem.W.keepIn K (.ref f8) = true)
    (a9 : PySem.W.nsIn K mainGlobals "_law_others_right" = some (some (.ref f9))) (l9 : K.lookup f9 = some ⟨oc9, od9, .func (PySem.W.fnOf "_law_others_right" "_law_others_right" (defArgs s__law_others_right) (defBody s__law_others_right) (defScope s__law_others_right) .none kV9 dc9 pm9 an9 cd9 ct9), sl9⟩) (c9 : PySem.W.codeIn K cd9 "_law_others_right" = true) (k9 : PySem.W.keepIn K (.ref f9) = true)
    (a10 : PySem.W.nsIn K mainGlobals "law" = some (some (.ref f10))) (l10 : K.lookup f10 = some ⟨oc10, od10, .func (PySem.W.fnOf "law" "law" (defArgs s_law) (defBody s_law) (defScope s_law) .none kV10 dc10 pm10 an10 cd10 ct10), sl10⟩) (c10 : PySem.W.codeIn K cd10 "law" = true) (k10 : PySem.W.keepIn K (.ref f10) = true)
    (z_len : PySem.W.nsIn K mainGlobals "len" = some none)
    (z_range : PySem.W.nsIn K mainGlobals "range" = some none)
    (z_sum : PySem.W.nsIn K mainGlobals "sum" = some none)
    (z_min : PySem.W.nsIn K mainGlobals "min" = some none)
    (z_max : PySem.W.nsIn K mainGlobals "max" = some none)
    (z_abs : PySem.W.nsIn K mainGlobals "abs" = some none)
    (z_sorted : PySem.W.nsIn K mainGlobals "sorted" = some none)
    (z_tuple : PySem.W.nsIn K mainGlobals "tuple" = some none)
    (z_enumerate : PySem.W.nsIn K mainGlobals "enumerate" = some none)
    : ∃ fd : FuncData, (∀ (s : Shared) (v : Value), BindsTo s fd ⟨[v], []⟩ [("script", v)]) ∧ ∀ base : Heap, K.In base → base.Ns mainGlobals mg → FnOk l.prog w K mg base CX0 5 fa fd ["script"] (SpR (preLaw K)) := by
  have e := hfa.symm.trans (PySem.W.mg_of X G a10)
  cases e
  have T : Txt mg := ⟨PySem.W.mg_none_of X G z_len, PySem.W.mg_none_of X G z_range, PySem.W.mg_none_of X G z_sum, PySem.W.mg_none_of X G z_min, PySem.W.mg_none_of X G z_max, PySem.W.mg_none_of X G z_abs, PySem.W.mg_none_of X G z_sorted, PySem.W.mg_none_of X G z_tuple, PySem.W.mg_none_of X G z_enumerate⟩
  have F0 := fun_mk (st := s_best_by_stretches) l0 c0 k0
  have b0 := F0.binds (ps := ["heaps"]) fun _ _ _ _ _ _ us hl => match us, hl with | [_], _ => rfl
  have F1 := fun_mk (st := s_least_cost) l1 c1 k1
  have b1 := F1.binds (ps := ["heaps"]) fun _ _ _ _ _ _ us hl => match us, hl with | [_], _ => rfl
  have F2 := fun_mk (st := s_ring_cost) l2 c2 k2
  have b2 := F2.binds (ps := ["heaps"]) fun _ _ _ _ _ _ us hl => match us, hl with | [_], _ => rfl
  have F3 := fun_mk (st := s_any_cost) l3 c3 k3
  have b3 := F3.binds (ps := ["heaps"]) fun _ _ _ _ _ _ us hl => match us, hl with | [_], _ => rfl
  have F4 := fun_mk (st := s__law_deck) l4 c4 k4
  have b4 := F4.binds (ps := ["script"]) fun _ _ _ _ _ _ us hl => match us, hl with | [_], _ => rfl
  have F5 := fun_mk (st := s__law_draw) l5 c5 k5
  have b5 := F5.binds (ps := ["deck", "most"]) fun _ _ _ _ _ _ us hl => match us, hl with | [_, _], _ => rfl
  have F6 := fun_mk (st := s__law_weights) l6 c6 k6
  have b6 := F6.binds (ps := ["deck", "many"]) fun _ _ _ _ _ _ us hl => match us, hl with | [_, _], _ => rfl
  have F7 := fun_mk (st := s__law_heaps) l7 c7 k7
  have b7 := F7.binds (ps := ["deck", "most"]) fun _ _ _ _ _ _ us hl => match us, hl with | [_, _], _ => rfl
  have F8 := fun_mk (st := s__law_places_right) l8 c8 k8
  have b8 := F8.binds (ps := ["heaps", "cost", "place"]) fun _ _ _ _ _ _ us hl => match us, hl with | [_, _, _], _ => rfl
  have F9 := fun_mk (st := s__law_others_right) l9 c9 k9
  have b9 := F9.binds (ps := ["deck", "heaps", "cost", "place"]) fun _ _ _ _ _ _ us hl => match us, hl with | [_, _, _, _], _ => rfl
  have F10 := fun_mk (st := s_law) l10 c10 k10
  refine ⟨PySem.W.fnOf "law" "law" (defArgs s_law) (defBody s_law) (defScope s_law) .none kV10 dc10 pm10 an10 cd10 ct10, fun s v => .of_eq rfl, fun base _ _ => ?_⟩
  have D_best_by_stretches : Def l.prog w K mg base "best_by_stretches" ["heaps"] 1 (SpR preBest) := ⟨_, _, ok_best_by_stretches T  F0, PySem.W.mg_of X G a0, k0, b0⟩
  have D_least_cost : Def l.prog w K mg base "least_cost" ["heaps"] 2 (SpR preLeast) := ⟨_, _, ok_least_cost T D_best_by_stretches F1, PySem.W.mg_of X G a1, k1, b1⟩
  have D_ring_cost : Def l.prog w K mg base "ring_cost" ["heaps"] 3 (SpR preRing) := ⟨_, _, ok_ring_cost T D_least_cost F2, PySem.W.mg_of X G a2, k2, b2⟩
  have D_any_cost : Def l.prog w K mg base "any_cost" ["heaps"] 1 (SpR preAny) := ⟨_, _, ok_any_cost T  F3, PySem.W.mg_of X G a3, k3, b3⟩
  have D__law_deck : Def l.prog w K mg base "_law_deck" ["script"] 1 (SpR (preDeck K)) := ⟨_, _, ok__law_deck T  F4, PySem.W.mg_of X G a4, k4, b4⟩
  have D__law_draw : Def l.prog w K mg base "_law_draw" ["deck", "most"] 1 (SpR preDraw) := ⟨_, _, ok__law_draw T  F5, PySem.W.mg_of X G a5, k5, b5⟩
  have D__law_weights : Def l.prog w K mg base "_law_weights" ["deck", "many"] 2 (SpR preWeights) := ⟨_, _, ok__law_weights T D__law_draw F6, PySem.W.mg_of X G a6, k6, b6⟩
  have D__law_heaps : Def l.prog w K mg base "_law_heaps" ["deck", "most"] 3 (SpR preHeaps) := ⟨_, _, ok__law_heaps T D__law_draw D__law_weights F7, PySem.W.mg_of X G a7, k7, b7⟩
  have D__law_places_right : Def l.prog w K mg base "_law_places_right" ["heaps", "cost", "place"] 3 (SpR prePlaces) := ⟨_, _, ok__law_places_right T D_least_cost D_any_cost F8, PySem.W.mg_of X G a8, k8, b8⟩
  have D__law_others_right : Def l.prog w K mg base "_law_others_right" ["deck", "heaps", "cost", "place"] 4 (SpR preOthers) := ⟨_, _, ok__law_others_right T D__law_draw D_ring_cost F9, PySem.W.mg_of X G a9, k9, b9⟩
  exact ok_law T D__law_deck D__law_heaps D_ring_cost D__law_places_right D__law_others_right F10
end J
open PySem PySem.W PyProof.Rows
set_option maxHeartbeats 0 in
theorem PySem.Challenge.cw_joinedheaps_k35_whole_rings_holds : PySem.Challenge.rw_joinedheaps_k35_whole_rings.Holds := by
  w_on; o_law; k_head; (case hw => w_witness2)
  k_fill
  refine L2.walk_ofB (l := PySem.Challenge.rw_joinedheaps_k35_whole_rings) (n := 63) (k := 5) (x := "script") (CX := fun _ => L2.CX0) (sp := fun w => J.spTop _) rfl (by decide) rfl ⟨rfl, by decide, by decide⟩ (fun w h Y => PySem.W.kIn_of Y) ?F (fun _ _ a ns hl hb hO hS => J.top_start hl hb hO hS) (fun _ _ _ _ _ h => h)
  case F =>
    intro w mg fa h KX G hmg
    refine' J.all_mk KX G hmg ?a0 ?l0 ?c0 ?k0 ?a1 ?l1 ?c1 ?k1 ?a2 ?l2 ?c2 ?k2 ?a3 ?l3 ?c3 ?k3 ?a4 ?l4 ?c4 ?k4 ?a5 ?l5 ?c5 ?k5 ?a6 ?l6 ?c6 ?k6 ?a7 ?l7 ?c7 ?k7 ?a8 ?l8 ?c8 ?k8 ?a9 ?l9 ?c9 ?k9 ?a10 ?l10 ?c10 ?k10 ?z_len ?z_range ?z_sum ?z_min ?z_max ?z_abs ?z_sorted ?z_tuple ?z_enumerate
    (case a0 => k_is); (case l0 => k_is); (case c0 => k_is); (case k0 => k_is); (case a1 => k_is); (case l1 => k_is); (case c1 => k_is); (case k1 => k_is); (case a2 => k_is); (case l2 => k_is); (case c2 => k_is); (case k2 => k_is); (case a3 => k_is); (case l3 => k_is); (case c3 => k_is); (case k3 => k_is); (case a4 => k_is); (case l4 => k_is); (case c4 => k_is); (case k4 => k_is); (case a5 => k_is); (case l5 => k_is); (case c5 => k_is); (case k5 => k_is); (case a6 => k_is); (case l6 => k_is); (case c6 => k_is); (case k6 => k_is); (case a7 => k_is); (case l7 => k_is); (case c7 => k_is); (case k7 => k_is); (case a8 => k_is); (case l8 => k_is); (case c8 => k_is); (case k8 => k_is); (case a9 => k_is); (case l9 => k_is); (case c9 => k_is); (case k9 => k_is); (case a10 => k_is); (case l10 => k_is); (case c10 => k_is); (case k10 => k_is); (case z_len => k_is); (case z_range => k_is); (case z_sum => k_is); (case z_min => k_is); (case z_max => k_is); (case z_abs => k_is); (case z_sorted => k_is); (case z_tuple => k_is); (case z_enumerate => k_is)
namespace J
end J
