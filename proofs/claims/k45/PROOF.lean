import PyProof.Rows.All
import Wide.All
import OpenK.AllK
import Wide.FinOn
import HandS.ForMost
import HandS.Deep
import HandS.Set
import HandS.SetBool
import PyProof.Rows.SortStr
import HandS.Strs
import HandS.Defaults
import HandS.Style
import KE.DataCmp
import HandS.MakeKw
import PySem.Challenge.RW_topiary_k45_whole_alike_or_a_chain_apart
set_option Elab.async false
set_option linter.all false
set_option maxRecDepth 100000
set_option maxHeartbeats 4000000
/-! Data that stands still: a data heap inside the heap, what grows, what a reading evaluates to. -/
namespace T45
open PySem PySem.Spec PyProof.Rows L2

/-! ### data at a value -/
mutual
inductive Dt (H : Hp) : V → PyData → Prop
  | non : Dt H .non .none
  | bl (b : Bool) : Dt H (.bl b) (.bool b)
  | int (i : Int) : Dt H (.int i) (.int i)
  | str (x : Str) : Dt H (.str x) (.str x)
  | lst {a : Addr} {xs : List V} {ds : List PyData} : H a = some (.lst xs) → DtL H xs ds → Dt H (.ref a) (.list ds)
  | tup {a : Addr} {xs : List V} {ds : List PyData} : H a = some (.tup xs) → DtL H xs ds → Dt H (.ref a) (.tuple ds)
inductive DtL (H : Hp) : List V → List PyData → Prop
  | nil : DtL H [] []
  | cons {v : V} {vs : List V} {d : PyData} {ds : List PyData} : Dt H v d → DtL H vs ds → DtL H (v :: vs) (d :: ds)
end
section
variable {H H' : Hp} {K : PySem.W.Frag}
mutual
theorem Dt.mono (e : Same H H') : ∀ {v : V} {d : PyData}, Dt H v d → Dt H' v d
  | _, _, .non => .non
  | _, _, .bl b => .bl b
  | _, _, .int i => .int i
  | _, _, .str x => .str x
  | _, _, .lst h l => .lst (e _ _ h) (DtL.mono e l)
  | _, _, .tup h l => .tup (e _ _ h) (DtL.mono e l)
theorem DtL.mono (e : Same H H') : ∀ {vs : List V} {ds : List PyData}, DtL H vs ds → DtL H' vs ds
  | _, _, .nil => .nil
  | _, _, .cons h l => .cons (Dt.mono e h) (DtL.mono e l)
end
mutual
theorem Dt.dp : ∀ {v : V} {d : PyData}, Dt H v d → Dp K H v d
  | _, _, .non => .non
  | _, _, .bl b => .bl b
  | _, _, .int i => .int i
  | _, _, .str x => .str x
  | _, _, .lst h l => .lst (SqL.of h) (DtL.dp l)
  | _, _, .tup h l => .tup (SqT.of h) (DtL.dp l)
theorem DtL.dp : ∀ {vs : List V} {ds : List PyData}, DtL H vs ds → DpAll K H vs ds
  | _, _, .nil => .nil
  | _, _, .cons h l => .cons (Dt.dp h) (DtL.dp l)
end
theorem DtL.length : ∀ {vs : List V} {ds : List PyData}, DtL H vs ds → vs.length = ds.length
  | _, _, .nil => rfl
  | _, _, .cons _ l => congrArg Nat.succ (DtL.length l)
theorem DtL.get : ∀ {vs : List V} {ds : List PyData} {i : Nat} {d : PyData}, DtL H vs ds → ds[i]? = some d → ∃ v, vs[i]? = some v ∧ Dt H v d
  | _, _, _, _, .nil, e => by simp at e
  | _, _, 0, _, .cons h _, e => by
    simp at e
    subst e
    exact ⟨_, rfl, h⟩
  | _, _, i + 1, d, .cons _ l, e => by
    obtain ⟨v, h1, h2⟩ := DtL.get (i := i) (d := d) l (by simpa using e)
    exact ⟨v, by simpa using h1, h2⟩
theorem DtL.getV : ∀ {vs : List V} {ds : List PyData} {i : Nat} {v : V}, DtL H vs ds → vs[i]? = some v → ∃ d, ds[i]? = some d ∧ Dt H v d
  | _, _, _, _, .nil, e => by simp at e
  | _, _, 0, _, .cons h _, e => by
    simp at e
    subst e
    exact ⟨_, rfl, h⟩
  | _, _, i + 1, d, .cons _ l, e => by
    obtain ⟨v, h1, h2⟩ := DtL.getV (i := i) (v := d) l (by simpa using e)
    exact ⟨v, by simpa using h1, h2⟩
theorem DtL.append : ∀ {vs ws : List V} {ds es : List PyData}, DtL H vs ds → DtL H ws es → DtL H (vs ++ ws) (ds ++ es)
  | _, _, _, _, .nil, s => s
  | _, _, _, _, .cons h l, s => .cons h (DtL.append l s)
theorem DtL.one {v : V} {d : PyData} (h : Dt H v d) : DtL H [v] [d] := .cons h .nil
theorem DtL.set : ∀ {vs : List V} {ds : List PyData} {v : V} {d : PyData} (i : Nat), DtL H vs ds → Dt H v d → DtL H (vs.set i v) (ds.set i d)
  | _, _, _, _, _, .nil, _ => .nil
  | _, _, _, _, 0, .cons _ l, h => .cons h l
  | _, _, _, _, i + 1, .cons g l, h => .cons g (DtL.set i l h)
theorem Dt.int_of {v : V} {i : Int} (h : Dt H v (.int i)) : v = .int i := by cases h; rfl
theorem Dt.str_of {v : V} {x : Str} (h : Dt H v (.str x)) : v = .str x := by cases h; rfl
theorem Dt.bl_of {v : V} {b : Bool} (h : Dt H v (.bool b)) : v = .bl b := by cases h; rfl
theorem Dt.non_of {v : V} (h : Dt H v .none) : v = .non := by cases h; rfl
theorem Dt.lst_of {v : V} {ds : List PyData} (h : Dt H v (.list ds)) : ∃ a xs, v = .ref a ∧ H a = some (.lst xs) ∧ DtL H xs ds := by
  cases h with
  | lst h l => exact ⟨_, _, rfl, h, l⟩
theorem Dt.tup_of {v : V} {ds : List PyData} (h : Dt H v (.tuple ds)) : ∃ a xs, v = .ref a ∧ H a = some (.tup xs) ∧ DtL H xs ds := by
  cases h with
  | tup h l => exact ⟨_, _, rfl, h, l⟩
theorem DtL.nil_of {vs : List V} (h : DtL H vs []) : vs = [] := by cases h; rfl
theorem DtL.cons_of {vs : List V} {d : PyData} {ds : List PyData} (h : DtL H vs (d :: ds)) : ∃ v ws, vs = v :: ws ∧ Dt H v d ∧ DtL H ws ds := by
  cases h with
  | cons h l => exact ⟨_, _, rfl, h, l⟩
/-- lists of ints, of texts -/
theorem DtL.ints : ∀ {vs : List V} {ns : List Int}, DtL H vs (ns.map PyData.int) → vs = ns.map V.int
  | _, [], h => by cases h; rfl
  | _, n :: ns, h => by
    obtain ⟨v, ws, rfl, h1, h2⟩ := DtL.cons_of h
    rw [h1.int_of, DtL.ints h2]
    rfl
theorem DtL.of_ints : ∀ (ns : List Int), DtL H (ns.map V.int) (ns.map PyData.int)
  | [] => .nil
  | n :: ns => .cons (.int n) (DtL.of_ints ns)
theorem DtL.strs : ∀ {vs : List V} {ns : List Str}, DtL H vs (ns.map PyData.str) → vs = ns.map V.str
  | _, [], h => by cases h; rfl
  | _, n :: ns, h => by
    obtain ⟨v, ws, rfl, h1, h2⟩ := DtL.cons_of h
    rw [h1.str_of, DtL.strs h2]
    rfl
theorem DtL.of_strs : ∀ (ns : List Str), DtL H (ns.map V.str) (ns.map PyData.str)
  | [] => .nil
  | n :: ns => .cons (.str n) (DtL.of_strs ns)
theorem DtL.bls : ∀ {vs : List V} {ns : List Bool}, DtL H vs (ns.map PyData.bool) → vs = ns.map V.bl
  | _, [], h => by cases h; rfl
  | _, n :: ns, h => by
    obtain ⟨v, ws, rfl, h1, h2⟩ := DtL.cons_of h
    rw [h1.bl_of, DtL.bls h2]
    rfl
end

/-! ### what grows: the data heap and the heap -/
/-- Hd: data that stands still, within H. Behind: both have grown; what the data heap has more was not there before -/
structure Gr (Hd H Hd' H' : Hp) : Prop where
  d : Same Hd Hd'
  h : Same H H'
  s : Same Hd' H'
  n : ∀ a o, Hd' a = some o → Hd a = some o ∨ H a = none
theorem Same.to {H H' : Hp} (e : Same H H') {l : Addr} (h : H' l = Option.none) : H l = Option.none := e.free h
section
variable {Hd H Hd' H' Hd2 H2 : Hp} {l p : Addr} {o o' : HO}
theorem Gr.refl (e : Same Hd H) : Gr Hd H Hd H := ⟨Same.refl _, Same.refl _, e, fun _ _ h => .inl h⟩
theorem Gr.trans (a : Gr Hd H Hd' H') (b : Gr Hd' H' Hd2 H2) : Gr Hd H Hd2 H2 where
  d := a.d.trans b.d
  h := a.h.trans b.h
  s := b.s
  n := fun x o e => (b.n x o e).elim (fun e1 => a.n x o e1) fun e1 => .inr (a.h.free e1)
theorem upd_same_new {H : Hp} {p : Addr} {o : HO} (h : H p = none) : Same H (upd H p o) := fun b u e => by
  rw [upd_ne (ne_of_none e h)]
  exact e
/-- a new object, known as data -/
theorem Gr.new (e : Same Hd H) (h : H p = none) : Gr Hd H (upd Hd p o) (upd H p o) where
  d := upd_same_new (e.free h)
  h := upd_same_new h
  s := fun b u q => by
    by_cases hb : b = p
    · subst hb
      rw [upd_same] at q ⊢
      exact q
    · rw [upd_ne hb] at q ⊢
      exact e b u q
  n := fun b u q => by
    by_cases hb : b = p
    · subst hb
      exact .inr h
    · rw [upd_ne hb] at q
      exact .inl q
/-- a new object that will change -/
theorem Gr.newM (e : Same Hd H) (h : H p = none) : Gr Hd H Hd (upd H p o) where
  d := Same.refl _
  h := upd_same_new h
  s := e.trans (upd_same_new h)
  n := fun _ _ q => .inl q
/-- an object that neither the entry nor the data know changes -/
theorem Gr.mut (g : Gr Hd H Hd' H') (h : H l = none) (hd : Hd' l = none) : Gr Hd H Hd' (upd H' l o) where
  d := g.d
  h := fun b u q => by
    rw [upd_ne (ne_of_none q h)]
    exact g.h b u q
  s := fun b u q => by
    rw [upd_ne (ne_of_none q hd)]
    exact g.s b u q
  n := g.n
/-- such an object is known as data from now on -/
theorem Gr.frz (g : Gr Hd H Hd' H') (h : H l = none) (hd : Hd' l = none) (ho : H' l = some o) : Gr Hd H (upd Hd' l o) H' where
  d := g.d.trans (upd_same_new hd)
  h := g.h
  s := fun b u q => by
    by_cases hb : b = l
    · subst hb
      rw [upd_same] at q
      cases q
      exact ho
    · rw [upd_ne hb] at q
      exact g.s b u q
  n := fun b u q => by
    by_cases hb : b = l
    · subst hb
      exact .inr h
    · rw [upd_ne hb] at q
      exact g.n b u q
/-- what the data do not know and what stands stays unknown to the data -/
theorem Gr.out (g : Gr Hd H Hd' H') (hd : Hd l = none) (ho : H l = some o) : Hd' l = none ∧ H' l = some o := by
  refine ⟨?_, g.h l o ho⟩
  cases q : Hd' l with
  | none => rfl
  | some u =>
    rcases g.n l u q with e | e
    · rw [hd] at e
      cases e
    · rw [ho] at e
      cases e
/-- the entry's own start -/
theorem Gr.ofs (g : Gr Hd H Hd' H') : Same Hd H' := g.d.trans g.s
end

/-! ### len, list of lists and tuples -/
def rLenL (K : PySem.W.Frag) : List V → Hp → VK → Prop := fun xs H Q => ∃ p ys, xs = [.ref p] ∧ (SqL K H p ys ∨ SqT K H p ys) ∧ Q (.int ys.length) H
def rListL (K : PySem.W.Frag) : List V → Hp → VK → Prop := fun xs H Q => ∃ p ys, xs = [.ref p] ∧ (SqL K H p ys ∨ SqT K H p ys) ∧ ∀ l, H l = none → Q (.ref l) (upd H l (.lst ys))

/-! ### what evaluates to what -/
/-- a later state of the data heap and the heap -/
structure Up (Hd H Hd1 H1 : Hp) : Prop where
  d : Same Hd Hd1
  s : Same Hd1 H1
  h : Same H H1
section
variable {Hd H Hd1 H1 Hd2 H2 : Hp}
theorem Up.refl (e : Same Hd H) : Up Hd H Hd H := ⟨Same.refl _, e, Same.refl _⟩
theorem Up.gr (u : Up Hd H Hd1 H1) (g : Gr Hd1 H1 Hd2 H2) : Up Hd H Hd2 H2 := ⟨u.d.trans g.d, g.s, u.h.trans g.h⟩
theorem Up.from {Hd0 H0 : Hp} (u : Up Hd H Hd1 H1) (d : Same Hd0 Hd) (h : Same H0 H) : Up Hd0 H0 Hd1 H1 := ⟨d.trans u.d, u.s, h.trans u.h⟩
theorem Gr.up (g : Gr Hd H Hd1 H1) : Up Hd H Hd1 H1 := ⟨g.d, g.s, g.h⟩
theorem Up.gr0 (u : Up Hd H Hd1 H1) : Gr Hd1 H1 Hd1 H1 := .refl u.s
/-- nothing new is known as data -/
theorem Up.no (u : Up Hd H Hd1 H1) : Gr Hd H Hd H1 := ⟨Same.refl _, u.h, u.d.trans u.s, fun _ _ e => .inl e⟩
end
/-- to data -/
def Ed (t : TE) (σ : L2.St) (H Hd : Hp) (d : PyData) : Prop := ∀ Hd1 H1, Up Hd H Hd1 H1 → ∀ Q : VK, (∀ v Hd2 H2, Gr Hd1 H1 Hd2 H2 → Dt Hd2 v d → Q v H2) → t σ H1 Q
/-- to a value -/
def Ev (t : TE) (σ : L2.St) (H Hd : Hp) (v : V) : Prop := ∀ Hd1 H1, Up Hd H Hd1 H1 → ∀ Q : VK, (∀ Hd2 H2, Gr Hd1 H1 Hd2 H2 → Q v H2) → t σ H1 Q
/-- a test's answer -/
def Et (t : TT) (σ : L2.St) (H Hd : Hp) (b : Bool) : Prop := ∀ Hd1 H1, Up Hd H Hd1 H1 → ∀ Q : Bool → Hp → Prop, (∀ Hd2 H2, Gr Hd1 H1 Hd2 H2 → Q b H2) → t σ H1 Q
/-- arguments -/
def Ea (t : TA) (σ : L2.St) (H Hd : Hp) (ds : List PyData) : Prop := ∀ Hd1 H1, Up Hd H Hd1 H1 → ∀ Q : List V → Hp → Prop, (∀ vs Hd2 H2, Gr Hd1 H1 Hd2 H2 → DtL Hd2 vs ds → Q vs H2) → t σ H1 Q

section
variable {K : PySem.W.Frag} {σ : L2.St} {Hd Hd' H H' : Hp} {t ta tb te tx : TE} {d e : PyData} {ds : List PyData} {v : V} {tt tu : TT} {b c : Bool} {r : R2}
theorem Ed.mono (s : Same Hd Hd') (s' : Same H H') (h : Ed t σ H Hd d) : Ed t σ H' Hd' d := fun Hd1 H1 a Q q => h Hd1 H1 (a.from s s') Q q
theorem Ev.mono (s : Same Hd Hd') (s' : Same H H') (h : Ev t σ H Hd v) : Ev t σ H' Hd' v := fun Hd1 H1 a Q q => h Hd1 H1 (a.from s s') Q q
theorem Et.mono (s : Same Hd Hd') (s' : Same H H') (h : Et tt σ H Hd b) : Et tt σ H' Hd' b := fun Hd1 H1 a Q q => h Hd1 H1 (a.from s s') Q q
theorem Ea.mono {ts : TA} (s : Same Hd Hd') (s' : Same H H') (h : Ea ts σ H Hd ds) : Ea ts σ H' Hd' ds := fun Hd1 H1 a Q q => h Hd1 H1 (a.from s s') Q q
theorem Ed.is (h : Ed t σ H Hd d) (q : d = e) : Ed t σ H Hd e := q ▸ h
theorem Et.is (h : Et tt σ H Hd b) (q : b = c) : Et tt σ H Hd c := q ▸ h
theorem Ed.int {i : Int} (h : Ed t σ H Hd (.int i)) : Ev t σ H Hd (.int i) := fun Hd1 H1 a Q q => h Hd1 H1 a Q fun v Hd2 H2 g x => by
  rw [x.int_of]
  exact q Hd2 H2 g
theorem Ed.bl {i : Bool} (h : Ed t σ H Hd (.bool i)) : Ev t σ H Hd (.bl i) := fun Hd1 H1 a Q q => h Hd1 H1 a Q fun v Hd2 H2 g x => by
  rw [x.bl_of]
  exact q Hd2 H2 g
theorem Ed.str {i : Str} (h : Ed t σ H Hd (.str i)) : Ev t σ H Hd (.str i) := fun Hd1 H1 a Q q => h Hd1 H1 a Q fun v Hd2 H2 g x => by
  rw [x.str_of]
  exact q Hd2 H2 g
theorem Ev.ed (h : Ev t σ H Hd v) (x : Dt Hd v d) : Ed t σ H Hd d := fun Hd1 H1 a Q q => h Hd1 H1 a Q fun Hd2 H2 g => q v Hd2 H2 g (x.mono (a.d.trans g.d))
/-- names, constants -/
theorem ev_var {i : Nat} (h : σ[i]? = some (some v)) : Ev (tVar i) σ H Hd v := fun Hd1 H1 a Q q => ⟨v, h, q Hd1 H1 a.gr0⟩
theorem ed_var {i : Nat} (h : σ[i]? = some (some v)) (x : Dt Hd v d) : Ed (tVar i) σ H Hd d := (ev_var h).ed x
theorem ev_c : Ev (tC v) σ H Hd v := fun Hd1 H1 a Q q => q Hd1 H1 a.gr0
theorem ed_c (x : Dt Hd v d) : Ed (tC v) σ H Hd d := ev_c.ed x
theorem ed_int {i : Int} : Ed (tC (.int i)) σ H Hd (.int i) := ed_c (.int i)
theorem ed_str {x : Str} : Ed (tC (.str x)) σ H Hd (.str x) := ed_c (.str x)
theorem ed_bl {x : Bool} : Ed (tC (.bl x)) σ H Hd (.bool x) := ed_c (.bl x)
theorem ed_non : Ed (tC .non) σ H Hd .none := ed_c .non
/-- an operation on data: by its rule -/
def Rd2 (r : R2) (d e f : PyData) : Prop := ∀ Hd1 H1, Same Hd1 H1 → ∀ x y, Dt Hd1 x d → Dt Hd1 y e → ∀ Q : VK, (∀ v Hd2 H2, Gr Hd1 H1 Hd2 H2 → Dt Hd2 v f → Q v H2) → r x y H1 Q
theorem ed_op {f : PyData} (ha : Ed ta σ H Hd d) (hb : Ed tb σ H Hd e) (hr : Rd2 r d e f) : Ed (tOp r ta tb) σ H Hd f := fun Hd1 H1 a Q q =>
  ha Hd1 H1 a _ fun x Hd2 H2 g2 x2 => hb Hd2 H2 (a.gr g2) _ fun y Hd3 H3 g3 y3 =>
    hr Hd3 H3 g3.s x y (x2.mono g3.d) y3 Q fun v Hd4 H4 g4 v4 => q v Hd4 H4 ((g2.trans g3).trans g4) v4
theorem rd_add {i j : Int} : Rd2 (rI0 fun i j => .int (i + j)) (.int i) (.int j) (.int (i + j)) := fun Hd1 H1 b x y hx hy Q q =>
  ⟨i, j, hx.int_of, hy.int_of, q _ Hd1 H1 (.refl b) (.int _)⟩
theorem rd_sub {i j : Int} : Rd2 (rI0 fun i j => .int (i - j)) (.int i) (.int j) (.int (i - j)) := fun Hd1 H1 b x y hx hy Q q =>
  ⟨i, j, hx.int_of, hy.int_of, q _ Hd1 H1 (.refl b) (.int _)⟩
theorem rd_lt {i j : Int} : Rd2 (rI0 fun i j => .bl (decide (i < j))) (.int i) (.int j) (.bool (decide (i < j))) := fun Hd1 H1 b x y hx hy Q q =>
  ⟨i, j, hx.int_of, hy.int_of, q _ Hd1 H1 (.refl b) (.bl _)⟩
theorem rd_le {i j : Int} : Rd2 (rI0 fun i j => .bl (decide (i ≤ j))) (.int i) (.int j) (.bool (decide (i ≤ j))) := fun Hd1 H1 b x y hx hy Q q =>
  ⟨i, j, hx.int_of, hy.int_of, q _ Hd1 H1 (.refl b) (.bl _)⟩
theorem rd_gt {i j : Int} : Rd2 (rI0 fun i j => .bl (decide (j < i))) (.int i) (.int j) (.bool (decide (j < i))) := fun Hd1 H1 b x y hx hy Q q =>
  ⟨i, j, hx.int_of, hy.int_of, q _ Hd1 H1 (.refl b) (.bl _)⟩
theorem rd_ge {i j : Int} : Rd2 (rI0 fun i j => .bl (decide (j ≤ i))) (.int i) (.int j) (.bool (decide (j ≤ i))) := fun Hd1 H1 b x y hx hy Q q =>
  ⟨i, j, hx.int_of, hy.int_of, q _ Hd1 H1 (.refl b) (.bl _)⟩
/-- == of flat things -/
theorem dec_strV {i j : Str} : decide (V.str i = V.str j) = decide (i = j) := by
  by_cases h : i = j
  · subst h; simp
  · rw [decide_eq_false h]
    exact decide_eq_false fun z => h (V.str.inj z)
theorem rd_eqS {i j : Str} : Rd2 rEq (.str i) (.str j) (.bool (decide (i = j))) := fun Hd1 H1 b x y hx hy Q q => by
  rw [hx.str_of, hy.str_of]
  refine ⟨rfl, ?_⟩
  rw [dec_strV]
  exact q _ Hd1 H1 (.refl b) (.bl _)
theorem rd_neS {i j : Str} : Rd2 rNe (.str i) (.str j) (.bool (!decide (i = j))) := fun Hd1 H1 b x y hx hy Q q => by
  rw [hx.str_of, hy.str_of]
  refine ⟨rfl, ?_⟩
  rw [dec_strV]
  exact q _ Hd1 H1 (.refl b) (.bl _)
theorem rd_eqB {i j : Bool} : Rd2 rEq (.bool i) (.bool j) (.bool (i == j)) := fun Hd1 H1 b x y hx hy Q q => by
  rw [hx.bl_of, hy.bl_of]
  refine ⟨rfl, ?_⟩
  rw [dec_bl]
  exact q _ Hd1 H1 (.refl b) (.bl _)
theorem rd_neB {i j : Bool} : Rd2 rNe (.bool i) (.bool j) (.bool (!(i == j))) := fun Hd1 H1 b x y hx hy Q q => by
  rw [hx.bl_of, hy.bl_of]
  refine ⟨rfl, ?_⟩
  rw [dec_bl]
  exact q _ Hd1 H1 (.refl b) (.bl _)
theorem rd_eqI {i j : Int} : Rd2 rEq (.int i) (.int j) (.bool (i == j)) := fun Hd1 H1 b x y hx hy Q q => by
  rw [hx.int_of, hy.int_of]
  refine ⟨rfl, ?_⟩
  rw [dec_int]
  exact q _ Hd1 H1 (.refl b) (.bl _)
/-- == of data at any depth -/
theorem rd_eqD {x y : PyData} (sx : SeqAt.shaped x = true) (sy : SeqAt.shaped y = true) : Rd2 (rEqD K) x y (.bool (PyData.eqv x y)) := fun Hd1 H1 b _ _ hx hy Q q =>
  ⟨x, y, (hx.mono b).dp, (hy.mono b).dp, sx, sy, q _ Hd1 H1 (.refl b) (.bl _)⟩
theorem rd_neD {x y : PyData} (sx : SeqAt.shaped x = true) (sy : SeqAt.shaped y = true) : Rd2 (rNeD K) x y (.bool (!PyData.eqv x y)) := fun Hd1 H1 b _ _ hx hy Q q =>
  ⟨x, y, (hx.mono b).dp, (hy.mono b).dp, sx, sy, q _ Hd1 H1 (.refl b) (.bl _)⟩
theorem rd_inD {x : PyData} (sx : SeqAt.shaped x = true) (sy : SeqAt.shaped (.list ds) = true) : Rd2 (rInD K) x (.list ds) (.bool (ds.any fun z => PyData.eqv z x)) := fun Hd1 H1 b _ _ hx hy Q q =>
  ⟨x, ds, (hx.mono b).dp, (hy.mono b).dp, sx, sy, q _ Hd1 H1 (.refl b) (.bl _)⟩
theorem rd_notInD {x : PyData} (sx : SeqAt.shaped x = true) (sy : SeqAt.shaped (.list ds) = true) : Rd2 (rNotInD K) x (.list ds) (.bool (!ds.any fun z => PyData.eqv z x)) := fun Hd1 H1 b _ _ hx hy Q q =>
  ⟨x, ds, (hx.mono b).dp, (hy.mono b).dp, sx, sy, q _ Hd1 H1 (.refl b) (.bl _)⟩
/-- a + b of lists -/
theorem rd_cat {es : List PyData} (hz : ds.length + es.length ≤ sizeLine) : Rd2 rCat (.list ds) (.list es) (.list (ds ++ es)) := fun Hd1 H1 b _ _ hx hy Q q => by
  obtain ⟨p, xs, rfl, h1, h2⟩ := hx.lst_of
  obtain ⟨p', ys, rfl, h3, h4⟩ := hy.lst_of
  refine ⟨p, p', xs, ys, rfl, rfl, b _ _ h1, b _ _ h3, by rw [h2.length, h4.length]; exact hz, fun l hl => ?_⟩
  have g : Gr Hd1 H1 (upd Hd1 l (.lst (xs ++ ys))) (upd H1 l (.lst (xs ++ ys))) := .new b hl
  exact q _ _ _ g (.lst upd_same ((h2.append h4).mono g.d))
/-- an item -/
theorem rd_ixL {j : Nat} (hj : ds[j]? = some d) : Rd2 (rIxL K) (.list ds) (.int (j : Int)) d := fun Hd1 H1 b _ _ hx hy Q q => by
  obtain ⟨p, xs, rfl, h1, h2⟩ := hx.lst_of
  obtain ⟨v, hv, hd⟩ := h2.get hj
  rw [hy.int_of]
  exact ⟨p, xs, _, v, rfl, rfl, SqL.of (b _ _ h1), atI_nat hv, q v Hd1 H1 (.refl b) hd⟩
theorem rd_ixT {j : Nat} (hj : ds[j]? = some d) : Rd2 (rIxT K) (.tuple ds) (.int (j : Int)) d := fun Hd1 H1 b _ _ hx hy Q q => by
  obtain ⟨p, xs, rfl, h1, h2⟩ := hx.tup_of
  obtain ⟨v, hv, hd⟩ := h2.get hj
  rw [hy.int_of]
  exact ⟨p, xs, _, v, rfl, rfl, SqT.of (b _ _ h1), atI_nat hv, q v Hd1 H1 (.refl b) hd⟩
/-- arguments, displays -/
theorem ea_nil : Ea tNil σ H Hd [] := fun Hd1 H1 a _ q => q [] Hd1 H1 a.gr0 .nil
theorem ea_cons {ts : TA} (h : Ed t σ H Hd d) (hr : Ea ts σ H Hd ds) : Ea (tCons t ts) σ H Hd (d :: ds) := fun Hd1 H1 a Q q =>
  h Hd1 H1 a _ fun x Hd2 H2 g2 x2 => hr Hd2 H2 (a.gr g2) _ fun xs Hd3 H3 g3 x3 => q (x :: xs) Hd3 H3 (g2.trans g3) (.cons (x2.mono g3.d) x3)
theorem ed_tup {ts : TA} (h : Ea ts σ H Hd ds) (hz : ds.length ≤ 1000 := by (first | decide | simp)) : Ed (tTup ts) σ H Hd (.tuple ds) := fun Hd1 H1 a Q q =>
  h Hd1 H1 a _ fun xs Hd2 H2 g2 x2 => ⟨by rw [x2.length]; exact Nat.le_trans hz (by decide), fun p hp => by
    have g : Gr Hd2 H2 (upd Hd2 p (.tup xs)) (upd H2 p (.tup xs)) := .new g2.s hp
    exact q _ _ _ (g2.trans g) (.tup upd_same (x2.mono g.d))⟩
theorem ed_lst {ts : TA} (h : Ea ts σ H Hd ds) (hz : ds.length ≤ 1000 := by (first | decide | simp)) : Ed (tLst ts) σ H Hd (.list ds) := fun Hd1 H1 a Q q =>
  h Hd1 H1 a _ fun xs Hd2 H2 g2 x2 => ⟨by rw [x2.length]; exact Nat.le_trans hz (by decide), fun p hp => by
    have g : Gr Hd2 H2 (upd Hd2 p (.lst xs)) (upd H2 p (.lst xs)) := .new g2.s hp
    exact q _ _ _ (g2.trans g) (.lst upd_same (x2.mono g.d))⟩
/-- tests -/
theorem et_test (h : Ed te σ H Hd (.bool b)) : Et (tTest te) σ H Hd b := fun Hd1 H1 a Q q => h Hd1 H1 a _ fun v Hd2 H2 g x => ⟨b, x.bl_of, q Hd2 H2 g⟩
theorem et_B (h : Ed te σ H Hd (.bool b)) : Et (tB te) σ H Hd b := fun Hd1 H1 a Q q => h Hd1 H1 a _ fun v Hd2 H2 g x => ⟨b, x.bl_of, q Hd2 H2 g⟩
theorem et_and (h1 : Et tt σ H Hd b) (h2 : b = true → Et tu σ H Hd c) : Et (tAnd tt tu) σ H Hd (b && c) := fun Hd1 H1 a Q q => h1 Hd1 H1 a _ fun Hd2 H2 g => by
  cases b with
  | true =>
    show tu σ H2 Q
    exact h2 rfl Hd2 H2 (a.gr g) Q fun Hd3 H3 g3 => q Hd3 H3 (g.trans g3)
  | false =>
    show Q false H2
    exact q Hd2 H2 g
theorem et_or (h1 : Et tt σ H Hd b) (h2 : b = false → Et tu σ H Hd c) : Et (tOr tt tu) σ H Hd (b || c) := fun Hd1 H1 a Q q => h1 Hd1 H1 a _ fun Hd2 H2 g => by
  cases b with
  | true =>
    show Q true H2
    exact q Hd2 H2 g
  | false =>
    show tu σ H2 Q
    exact h2 rfl Hd2 H2 (a.gr g) Q fun Hd3 H3 g3 => q Hd3 H3 (g.trans g3)
theorem et_not (h1 : Et tt σ H Hd b) : Et (tNot tt) σ H Hd (!b) := fun Hd1 H1 a Q q => h1 Hd1 H1 a _ fun Hd2 H2 g => q Hd2 H2 g
theorem et_yes : Et tYes σ H Hd true := fun Hd1 H1 a Q q => q Hd1 H1 a.gr0
theorem ed_andV (h1 : Ed ta σ H Hd (.bool b)) (h2 : b = true → Ed tb σ H Hd (.bool c)) : Ed (tAndV ta tb) σ H Hd (.bool (b && c)) := fun Hd1 H1 a Q q => h1 Hd1 H1 a _ fun v Hd2 H2 g x => ⟨b, x.bl_of, by
  cases b with
  | true =>
    show tb σ H2 Q
    exact h2 rfl Hd2 H2 (a.gr g) Q fun v3 Hd3 H3 g3 x3 => q v3 Hd3 H3 (g.trans g3) x3
  | false =>
    show Q (.bl false) H2
    exact q _ Hd2 H2 g (.bl _)⟩
theorem ed_orV (h1 : Ed ta σ H Hd (.bool b)) (h2 : b = false → Ed tb σ H Hd (.bool c)) : Ed (tOrV ta tb) σ H Hd (.bool (b || c)) := fun Hd1 H1 a Q q => h1 Hd1 H1 a _ fun v Hd2 H2 g x => ⟨b, x.bl_of, by
  cases b with
  | true =>
    show Q (.bl true) H2
    exact q _ Hd2 H2 g (.bl _)
  | false =>
    show tb σ H2 Q
    exact h2 rfl Hd2 H2 (a.gr g) Q fun v3 Hd3 H3 g3 x3 => q v3 Hd3 H3 (g.trans g3) x3⟩
theorem ed_notV (h1 : Ed ta σ H Hd (.bool b)) : Ed (tNotV ta) σ H Hd (.bool (!b)) := fun Hd1 H1 a Q q => h1 Hd1 H1 a _ fun v Hd2 H2 g x => ⟨b, x.bl_of, q _ Hd2 H2 g (.bl _)⟩
theorem ed_if (h : Et tt σ H Hd b) (h1 : b = true → Ed ta σ H Hd d) (h2 : b = false → Ed tb σ H Hd d) : Ed (tIf tt ta tb) σ H Hd d := fun Hd1 H1 a Q q => h Hd1 H1 a _ fun Hd2 H2 g => by
  cases b with
  | true =>
    show ta σ H2 Q
    exact h1 rfl Hd2 H2 (a.gr g) Q fun v3 Hd3 H3 g3 x3 => q v3 Hd3 H3 (g.trans g3) x3
  | false =>
    show tb σ H2 Q
    exact h2 rfl Hd2 H2 (a.gr g) Q fun v3 Hd3 H3 g3 x3 => q v3 Hd3 H3 (g.trans g3) x3
/-- a < b < c -/
theorem et_chain {r' : R2} {f : PyData} (ha : Ed ta σ H Hd d) (hb : Ed tb σ H Hd e) (hc : Ed te σ H Hd f) (hr : Rd2 r d e (.bool b)) (hr' : b = true → Rd2 r' e f (.bool c)) : Ed (tChain r r' ta tb te) σ H Hd (.bool (b && c)) := fun Hd1 H1 a Q q =>
  ha Hd1 H1 a _ fun x Hd2 H2 g2 x2 => hb Hd2 H2 (a.gr g2) _ fun y Hd3 H3 g3 y3 =>
    hr Hd3 H3 g3.s x y (x2.mono g3.d) y3 _ fun z Hd4 H4 g4 z4 => ⟨b, z4.bl_of, by
      cases b with
      | false => exact q _ Hd4 H4 ((g2.trans g3).trans g4) (.bl _)
      | true => exact hc Hd4 H4 (((a.gr g2).gr g3).gr g4) _ fun u Hd5 H5 g5 u5 => hr' rfl Hd5 H5 g5.s y u ((y3.mono g4.d).mono g5.d) u5 Q fun v Hd6 H6 g6 v6 => q v Hd6 H6 ((((g2.trans g3).trans g4).trans g5).trans g6) v6⟩
/-- a call of a built-in, by its rule on data -/
def Rc (r : List V → Hp → VK → Prop) (ds : List PyData) (f : PyData) : Prop := ∀ Hd1 H1, Same Hd1 H1 → ∀ xs, DtL Hd1 xs ds → ∀ Q : VK, (∀ v Hd2 H2, Gr Hd1 H1 Hd2 H2 → Dt Hd2 v f → Q v H2) → r xs H1 Q
theorem ed_cb {ts : TA} {rr : List V → Hp → VK → Prop} (h : Ea ts σ H Hd ds) (hr : Rc rr ds d) : Ed (tCB rr ts) σ H Hd d := fun Hd1 H1 a Q q => h Hd1 H1 a _ fun xs Hd2 H2 g x =>
  hr Hd2 H2 g.s xs x Q fun v Hd3 H3 g3 v3 => q v Hd3 H3 (g.trans g3) v3
theorem rc_len : Rc (rLenL K) [.list ds] (.int ds.length) := fun Hd1 H1 b xs hx Q q => by
  obtain ⟨v, ws, rfl, h1, h2⟩ := hx.cons_of
  rw [h2.nil_of]
  obtain ⟨p, ys, rfl, h3, h4⟩ := h1.lst_of
  exact ⟨p, ys, rfl, .inl (SqL.of (b _ _ h3)), by rw [h4.length]; exact q _ Hd1 H1 (.refl b) (.int _)⟩
theorem rc_list : Rc (rListL K) [.list ds] (.list ds) := fun Hd1 H1 b xs hx Q q => by
  obtain ⟨v, ws, rfl, h1, h2⟩ := hx.cons_of
  rw [h2.nil_of]
  obtain ⟨p, ys, rfl, h3, h4⟩ := h1.lst_of
  refine ⟨p, ys, rfl, .inl (SqL.of (b _ _ h3)), fun l hl => ?_⟩
  have g : Gr Hd1 H1 (upd Hd1 l (.lst ys)) (upd H1 l (.lst ys)) := .new b hl
  exact q _ _ _ g (.lst upd_same (h4.mono g.d))
theorem rc_all {bs : List Bool} : Rc (rAll K) [.list (bs.map PyData.bool)] (.bool (bs.all id)) := fun Hd1 H1 b xs hx Q q => by
  obtain ⟨v, ws, rfl, h1, h2⟩ := hx.cons_of
  rw [h2.nil_of]
  obtain ⟨p, ys, rfl, h3, h4⟩ := h1.lst_of
  have e := h4.bls
  subst e
  exact ⟨p, bs, rfl, SqL.of (b _ _ h3), q _ Hd1 H1 (.refl b) (.bl _)⟩
theorem rc_any {bs : List Bool} : Rc (rAny K) [.list (bs.map PyData.bool)] (.bool (bs.any id)) := fun Hd1 H1 b xs hx Q q => by
  obtain ⟨v, ws, rfl, h1, h2⟩ := hx.cons_of
  rw [h2.nil_of]
  obtain ⟨p, ys, rfl, h3, h4⟩ := h1.lst_of
  have e := h4.bls
  subst e
  exact ⟨p, bs, rfl, SqL.of (b _ _ h3), q _ Hd1 H1 (.refl b) (.bl _)⟩
/-- in a list | tuple of ints, of texts -/
theorem inV_ints (n : Int) : ∀ ns : List Int, inV (.int n) (ns.map V.int) = decide (n ∈ ns)
  | [] => by simp [inV]
  | m :: ns => by
    have ih := inV_ints n ns
    unfold inV at ih ⊢
    rw [List.map_cons, List.any_cons, ih]
    show ((m == n) || _) = _
    by_cases h : m = n
    · subst h; simp
    · have h' : ¬ n = m := fun z => h z.symm
      simp [h, h']
theorem inV_strs (n : Str) : ∀ ns : List Str, inV (.str n) (ns.map V.str) = decide (n ∈ ns)
  | [] => by simp [inV]
  | m :: ns => by
    have ih := inV_strs n ns
    unfold inV at ih ⊢
    rw [List.map_cons, List.any_cons, ih]
    show ((m == n) || _) = _
    by_cases h : m = n
    · subst h; simp
    · have h' : ¬ n = m := fun z => h z.symm
      simp [h, h']
theorem flat_ints (ns : List Int) : (ns.map V.int).all flatV = true := by
  rw [List.all_map]
  exact List.all_eq_true.mpr fun _ _ => rfl
theorem flat_strs (ns : List Str) : (ns.map V.str).all flatV = true := by
  rw [List.all_map]
  exact List.all_eq_true.mpr fun _ _ => rfl
theorem rd_inI {n : Int} {ns : List Int} : Rd2 (rIn K false) (.int n) (.list (ns.map PyData.int)) (.bool (decide (n ∈ ns))) := fun Hd1 H1 b x y hx hy Q q => by
  obtain ⟨p, xs, rfl, h1, h2⟩ := hy.lst_of
  rw [hx.int_of]
  have e := h2.ints
  subst e
  refine ⟨p, _, rfl, .inl (SqL.of (b _ _ h1)), rfl, flat_ints ns, ?_⟩
  show Q (.bl (inV (.int n) (ns.map V.int))) H1
  rw [inV_ints]
  exact q _ Hd1 H1 (.refl b) (.bl _)
/-- the same of a list of one's own -/
theorem rd_niS {n : Str} {ns : List Str} : Rd2 (rIn K true) (.str n) (.tuple (ns.map PyData.str)) (.bool (!decide (n ∈ ns))) := fun Hd1 H1 b x y hx hy Q q => by
  obtain ⟨p, xs, rfl, h1, h2⟩ := hy.tup_of
  rw [hx.str_of]
  have e := h2.strs
  subst e
  refine ⟨p, _, rfl, .inr (SqT.of (b _ _ h1)), rfl, flat_strs ns, ?_⟩
  show Q (.bl (!inV (.str n) (ns.map V.str))) H1
  rw [inV_strs]
  exact q _ Hd1 H1 (.refl b) (.bl _)
theorem rd_niSL {n : Str} {ns : List Str} : Rd2 (rIn K true) (.str n) (.list (ns.map PyData.str)) (.bool (!decide (n ∈ ns))) := fun Hd1 H1 b x y hx hy Q q => by
  obtain ⟨p, xs, rfl, h1, h2⟩ := hy.lst_of
  rw [hx.str_of]
  have e := h2.strs
  subst e
  refine ⟨p, _, rfl, .inl (SqL.of (b _ _ h1)), rfl, flat_strs ns, ?_⟩
  show Q (.bl (!inV (.str n) (ns.map V.str))) H1
  rw [inV_strs]
  exact q _ Hd1 H1 (.refl b) (.bl _)

/-! ### lists of one's own, that change: read as they stand -/
theorem ed_lenM {i : Nat} {l : Addr} {xs : List V} (hv : σ[i]? = some (some (.ref l))) (hl : H l = some (.lst xs)) :
    Ed (tCB (rLenL K) (tCons (tVar i) tNil)) σ H Hd (.int xs.length) := fun Hd1 H1 a Q q =>
  ⟨_, hv, l, xs, rfl, .inl (SqL.of (a.h _ _ hl)), q _ Hd1 H1 a.gr0 (.int _)⟩
theorem ed_ixM {i j : Nat} {l : Addr} {xs : List V} {ti : TE} (hv : σ[i]? = some (some (.ref l))) (hl : H l = some (.lst xs)) (hx : DtL Hd xs ds) (hi : Ed ti σ H Hd (.int (j : Int))) (hj : ds[j]? = some d) : Ed (tOp (rIxL K) (tVar i) ti) σ H Hd d := fun Hd1 H1 a Q q =>
  ⟨_, hv, hi Hd1 H1 a _ fun y Hd2 H2 g2 y2 => by
    obtain ⟨v, e1, e2⟩ := hx.get hj
    rw [y2.int_of]
    exact ⟨l, xs, _, v, rfl, rfl, SqL.of (g2.h _ _ (a.h _ _ hl)), atI_nat e1, q v Hd2 H2 g2 (e2.mono (a.d.trans g2.d))⟩⟩
theorem ed_niIM {i : Nat} {l : Addr} {n : Int} {ns : List Int} (ha : Ed ta σ H Hd (.int n)) (hv : σ[i]? = some (some (.ref l))) (hl : H l = some (.lst (ns.map V.int))) : Ed (tOp (rIn K true) ta (tVar i)) σ H Hd (.bool (!decide (n ∈ ns))) := fun Hd1 H1 a Q q =>
  ha Hd1 H1 a _ fun x Hd2 H2 g2 x2 => ⟨_, hv, by
    rw [x2.int_of]
    refine ⟨l, _, rfl, .inl (SqL.of (g2.h _ _ (a.h _ _ hl))), rfl, flat_ints ns, ?_⟩
    show Q (.bl (!inV (.int n) (ns.map V.int))) H2
    rw [inV_ints]
    exact q _ Hd2 H2 g2 (.bl _)⟩
theorem ed_niSM {i : Nat} {l : Addr} {n : Str} {ns : List Str} (ha : Ed ta σ H Hd (.str n)) (hv : σ[i]? = some (some (.ref l))) (hl : H l = some (.lst (ns.map V.str))) : Ed (tOp (rIn K true) ta (tVar i)) σ H Hd (.bool (!decide (n ∈ ns))) := fun Hd1 H1 a Q q =>
  ha Hd1 H1 a _ fun x Hd2 H2 g2 x2 => ⟨_, hv, by
    rw [x2.str_of]
    refine ⟨l, _, rfl, .inl (SqL.of (g2.h _ _ (a.h _ _ hl))), rfl, flat_strs ns, ?_⟩
    show Q (.bl (!inV (.str n) (ns.map V.str))) H2
    rw [inV_strs]
    exact q _ Hd2 H2 g2 (.bl _)⟩
theorem ed_niDM {i : Nat} {l : Addr} {xs : List V} {x : PyData} (ha : Ed ta σ H Hd x) (hv : σ[i]? = some (some (.ref l))) (hl : H l = some (.lst xs)) (hx : DtL Hd xs ds) (sx : SeqAt.shaped x = true) (sy : SeqAt.shaped (.list ds) = true) :
    Ed (tOp (rNotInD K) ta (tVar i)) σ H Hd (.bool (!ds.any fun z => PyData.eqv z x)) := fun Hd1 H1 a Q q =>
  ha Hd1 H1 a _ fun v Hd2 H2 g2 v2 => ⟨_, hv, x, ds, (v2.mono g2.s).dp, .lst (SqL.of (g2.h _ _ (a.h _ _ hl))) ((hx.mono (a.d.trans g2.d)).mono g2.s).dp, sx, sy, q _ Hd2 H2 g2 (.bl _)⟩
end

/-! ### promises of pure defs -/
/-- called with data, it hands back data -/
def spD (f : List PyData → PyData → Prop) : Sp := fun vs H Q _ => ∃ Hd ds r, Same Hd H ∧ DtL Hd vs ds ∧ f ds r ∧ ∀ v Hd' H', Gr Hd H Hd' H' → Dt Hd' v r → Q v H'
theorem spD_len {f : List PyData → PyData → Prop} {n : Nat} (h : ∀ ds r, f ds r → ds.length = n) : ∀ vs H Q E, spD f vs H Q E → vs.length = n := fun vs H Q E ⟨Hd, ds, r, _, x, hf, _⟩ => by
  rw [x.length]
  exact h ds r hf
section
variable {K : PySem.W.Frag} {σ : L2.St} {Hd H Hd0 H0 : Hp} {ta te : TE} {d d1 d2 d3 : PyData} {ds : List PyData} {f : List PyData → PyData → Prop} {E : XK} {ts : TA} {D : Ends} {tt : TT} {b : Bool} {tu tw tz : TS} {g : TG} {i j l : Nat}
theorem ed_call (h : Ea ts σ H Hd ds) (hf : f ds d) : Ed (tCall (spD f) [] E ts) σ H Hd d := fun Hd1 H1 a Q q => h Hd1 H1 a _ fun xs Hd2 H2 g x => by
  rw [List.append_nil]
  exact ⟨Hd2, ds, d, g.s, x, hf, fun v Hd3 H3 g3 v3 => q v Hd3 H3 (g.trans g3) v3⟩

/-! ### statements; G: what has grown since the entry -/
theorem s_asg (G : Gr Hd0 H0 Hd H) (h : Ed te σ H Hd d) (k : ∀ v Hd' H', Gr Hd0 H0 Hd' H' → Gr Hd H Hd' H' → Dt Hd' v d → D.nx (σ.set i (some v)) H') : tAsg te (gName i) D σ H :=
  h Hd H (.refl G.s) _ fun v Hd' H' g x => k v Hd' H' (G.trans g) g x
theorem q_asg (G : Gr Hd0 H0 Hd H) (h : Ed te σ H Hd d) (k : ∀ v Hd' H', Gr Hd0 H0 Hd' H' → Gr Hd H Hd' H' → Dt Hd' v d → tz D (σ.set i (some v)) H') : tSeq (tAsg te (gName i)) tz D σ H :=
  s_asg (D := { D with nx := tz D }) G h k
/-- a, b = a tuple -/
theorem q_asg2 (G : Gr Hd0 H0 Hd H) (h : Ed te σ H Hd (.tuple [d1, d2])) (k : ∀ v w Hd' H', Gr Hd0 H0 Hd' H' → Gr Hd H Hd' H' → Dt Hd' v d1 → Dt Hd' w d2 → tz D ((σ.set i (some v)).set j (some w)) H') :
    tSeq (tAsg te (gTup K 2 (gCons (gName i) (gCons (gName j) gNil)))) tz D σ H :=
  h Hd H (.refl G.s) _ fun v Hd' H' g x => by
    obtain ⟨a, xs, rfl, ha, hx⟩ := x.tup_of
    obtain ⟨u, ws, rfl, h1, hx⟩ := hx.cons_of
    obtain ⟨w, ws, rfl, h2, hx⟩ := hx.cons_of
    rw [hx.nil_of] at ha
    exact ⟨a, _, rfl, SqT.of (g.s _ _ ha), rfl, u, [w], rfl, w, [], rfl, rfl, k u w Hd' H' (G.trans g) g h1 h2⟩
theorem q_asg3 (G : Gr Hd0 H0 Hd H) (h : Ed te σ H Hd (.tuple [d1, d2, d3])) (k : ∀ u v w Hd' H', Gr Hd0 H0 Hd' H' → Gr Hd H Hd' H' → Dt Hd' u d1 → Dt Hd' v d2 → Dt Hd' w d3 → tz D (((σ.set i (some u)).set j (some v)).set l (some w)) H') :
    tSeq (tAsg te (gTup K 3 (gCons (gName i) (gCons (gName j) (gCons (gName l) gNil))))) tz D σ H :=
  h Hd H (.refl G.s) _ fun v Hd' H' g x => by
    obtain ⟨a, xs, rfl, ha, hx⟩ := x.tup_of
    obtain ⟨u, ws, rfl, h1, hx⟩ := hx.cons_of
    obtain ⟨v, ws, rfl, h2, hx⟩ := hx.cons_of
    obtain ⟨w, ws, rfl, h3, hx⟩ := hx.cons_of
    rw [hx.nil_of] at ha
    exact ⟨a, _, rfl, SqT.of (g.s _ _ ha), rfl, u, [v, w], rfl, v, [w], rfl, w, [], rfl, rfl, k u v w Hd' H' (G.trans g) g h1 h2 h3⟩
/-- a, b = x, y -/
theorem q_par (G : Gr Hd0 H0 Hd H) (h : Ea ts σ H Hd [d1, d2]) (k : ∀ v w Hd' H', Gr Hd0 H0 Hd' H' → Gr Hd H Hd' H' → Dt Hd' v d1 → Dt Hd' w d2 → tz D ((σ.set i (some v)).set j (some w)) H') : tSeq (tPar i j ts) tz D σ H :=
  h Hd H (.refl G.s) _ fun vs Hd' H' g x => by
    obtain ⟨u, ws, rfl, h1, hx⟩ := x.cons_of
    obtain ⟨w, ws, rfl, h2, hx⟩ := hx.cons_of
    rw [hx.nil_of]
    exact ⟨u, w, rfl, k u w Hd' H' (G.trans g) g h1 h2⟩
theorem s_ret (G : Gr Hd0 H0 Hd H) (h : Ed te σ H Hd d) (k : ∀ v Hd' H', Gr Hd0 H0 Hd' H' → Dt Hd' v d → D.rt v H') : tRet te D σ H :=
  h Hd H (.refl G.s) _ fun v Hd' H' g x => k v Hd' H' (G.trans g) x
theorem s_if (G : Gr Hd0 H0 Hd H) (h : Et tt σ H Hd b) (h1 : b = true → ∀ H', Gr Hd0 H0 Hd H' → Gr Hd H Hd H' → tu D σ H') (h2 : b = false → ∀ H', Gr Hd0 H0 Hd H' → Gr Hd H Hd H' → tw D σ H') : tIfS tt tu tw D σ H :=
  h Hd H (.refl G.s) _ fun Hd' H' g => by
    have g' : Gr Hd H Hd H' := g.up.no
    cases b with
    | true =>
      show tu D σ H'
      exact h1 rfl H' (G.trans g') g'
    | false =>
      show tw D σ H'
      exact h2 rfl H' (G.trans g') g'
theorem q_if (G : Gr Hd0 H0 Hd H) (h : Et tt σ H Hd b) (h1 : b = true → ∀ H', Gr Hd0 H0 Hd H' → Gr Hd H Hd H' → tu { D with nx := tz D } σ H') (h2 : b = false → ∀ H', Gr Hd0 H0 Hd H' → Gr Hd H Hd H' → tw { D with nx := tz D } σ H') : tSeq (tIfS tt tu tw) tz D σ H :=
  s_if (D := { D with nx := tz D }) G h h1 h2
/-- an if without else -/
theorem s_when (G : Gr Hd0 H0 Hd H) (h : Et tt σ H Hd b) (h1 : b = true → ∀ H', Gr Hd0 H0 Hd H' → Gr Hd H Hd H' → tu D σ H') (h2 : b = false → ∀ H', Gr Hd0 H0 Hd H' → Gr Hd H Hd H' → D.nx σ H') : tIfS tt tu tNext D σ H := s_if G h h1 h2
theorem q_when (G : Gr Hd0 H0 Hd H) (h : Et tt σ H Hd b) (h1 : b = true → ∀ H', Gr Hd0 H0 Hd H' → Gr Hd H Hd H' → tu { D with nx := tz D } σ H') (h2 : b = false → ∀ H', Gr Hd0 H0 Hd H' → Gr Hd H Hd H' → tz D σ H') : tSeq (tIfS tt tu tNext) tz D σ H :=
  s_when (D := { D with nx := tz D }) G h h1 h2
/-- the same, what follows shown once, from P -/
theorem q_whenK (P : L2.St → Hp → Prop) (G : Gr Hd0 H0 Hd H) (h : Et tt σ H Hd b) (h1 : b = true → ∀ H', Gr Hd0 H0 Hd H' → Gr Hd H Hd H' → ∀ N : L2.St → Hp → Prop, (∀ σ' H', P σ' H' → N σ' H') → tu { D with nx := N } σ H')
    (h2 : b = false → ∀ H', Gr Hd0 H0 Hd H' → Gr Hd H Hd H' → P σ H') (k : ∀ σ' H', P σ' H' → tz D σ' H') : tSeq (tIfS tt tu tNext) tz D σ H :=
  q_when G h (fun hb H' G' g' => h1 hb H' G' g' (tz D) k) fun hb H' G' g' => k σ H' (h2 hb H' G' g')
theorem q_ifK (P : L2.St → Hp → Prop) (G : Gr Hd0 H0 Hd H) (h : Et tt σ H Hd b) (h1 : b = true → ∀ H', Gr Hd0 H0 Hd H' → Gr Hd H Hd H' → ∀ N : L2.St → Hp → Prop, (∀ σ' H', P σ' H' → N σ' H') → tu { D with nx := N } σ H')
    (h2 : b = false → ∀ H', Gr Hd0 H0 Hd H' → Gr Hd H Hd H' → ∀ N : L2.St → Hp → Prop, (∀ σ' H', P σ' H' → N σ' H') → tw { D with nx := N } σ H') (k : ∀ σ' H', P σ' H' → tz D σ' H') : tSeq (tIfS tt tu tw) tz D σ H :=
  q_if G h (fun hb H' G' g' => h1 hb H' G' g' (tz D) k) fun hb H' G' g' => h2 hb H' G' g' (tz D) k
/-- an expression whose value is dropped -/
theorem q_drop (G : Gr Hd0 H0 Hd H) (h : Ed te σ H Hd d) (k : ∀ H', Gr Hd0 H0 Hd H' → Gr Hd H Hd H' → tz D σ H') : tSeq (tDrop te) tz D σ H :=
  h Hd H (.refl G.s) _ fun v Hd' H' g x => k H' (G.trans g.up.no) g.up.no
/-- a list of one's own grows -/
theorem s_app {l : Addr} {xs : List V} (G : Gr Hd0 H0 Hd H) (l0 : H0 l = none) (hd : Hd l = none) (hl : H l = some (.lst xs)) (hv : σ[i]? = some (some (.ref l))) (h : Ed te σ H Hd d) (hz : xs.length < 1000000)
    (k : ∀ v Hd' H', Gr Hd0 H0 Hd' (upd H' l (.lst (xs ++ [v]))) → Gr Hd H Hd' H' → Hd' l = none → Dt Hd' v d → D.nx σ (upd H' l (.lst (xs ++ [v])))) :
    tDrop (tBM K "list" rAppend (tVar i) (tCons te tNil)) D σ H :=
  ⟨_, hv, .inl ⟨rfl, xs, SqL.of hl⟩, h Hd H (.refl G.s) _ fun v Hd' H' g x => by
    obtain ⟨n1, n2⟩ := g.out hd hl
    exact ⟨l, xs, v, rfl, rfl, n2, Nat.lt_of_lt_of_le hz (by decide), k v Hd' H' ((G.trans g).mut l0 n1) g n1 x⟩⟩
theorem q_app {l : Addr} {xs : List V} (G : Gr Hd0 H0 Hd H) (l0 : H0 l = none) (hd : Hd l = none) (hl : H l = some (.lst xs)) (hv : σ[i]? = some (some (.ref l))) (h : Ed te σ H Hd d) (hz : xs.length < 1000000)
    (k : ∀ v Hd' H', Gr Hd0 H0 Hd' (upd H' l (.lst (xs ++ [v]))) → Gr Hd H Hd' H' → Hd' l = none → Dt Hd' v d → tz D σ (upd H' l (.lst (xs ++ [v])))) :
    tSeq (tDrop (tBM K "list" rAppend (tVar i) (tCons te tNil))) tz D σ H := s_app (D := { D with nx := tz D }) G l0 hd hl hv h hz k
/-- if ..: l.append(e) -/
theorem s_ifApp {l : Addr} {xs : List V} (G : Gr Hd0 H0 Hd H) (l0 : H0 l = none) (hd : Hd l = none) (hl : H l = some (.lst xs)) (hv : σ[i]? = some (some (.ref l))) (h : Et tt σ H Hd b) (he : b = true → Ed te σ H Hd d) (hz : xs.length < 1000000)
    (k : ∀ xs' Hd' H', Gr Hd0 H0 Hd' H' → Same Hd Hd' → Hd' l = none → H' l = some (.lst xs') → ((b = true ∧ ∃ v, xs' = xs ++ [v] ∧ Dt Hd' v d) ∨ (b = false ∧ xs' = xs)) → D.nx σ H') :
    tIfS tt (tDrop (tBM K "list" rAppend (tVar i) (tCons te tNil))) tNext D σ H :=
  s_when G h (fun hb H1 G1 g1 => s_app G1 l0 hd (g1.h _ _ hl) hv ((he hb).mono (Same.refl _) g1.h) hz fun v Hd' H' G2 g2 n2 x => k _ Hd' _ G2 g2.d n2 upd_same (.inl ⟨hb, v, rfl, x⟩))
    fun hb H1 G1 g1 => k xs Hd H1 G1 (Same.refl _) hd (g1.h _ _ hl) (.inr ⟨hb, rfl⟩)
theorem q_ifApp {l : Addr} {xs : List V} (G : Gr Hd0 H0 Hd H) (l0 : H0 l = none) (hd : Hd l = none) (hl : H l = some (.lst xs)) (hv : σ[i]? = some (some (.ref l))) (h : Et tt σ H Hd b) (he : b = true → Ed te σ H Hd d) (hz : xs.length < 1000000)
    (k : ∀ xs' Hd' H', Gr Hd0 H0 Hd' H' → Same Hd Hd' → Hd' l = none → H' l = some (.lst xs') → ((b = true ∧ ∃ v, xs' = xs ++ [v] ∧ Dt Hd' v d) ∨ (b = false ∧ xs' = xs)) → tz D σ H') :
    tSeq (tIfS tt (tDrop (tBM K "list" rAppend (tVar i) (tCons te tNil))) tNext) tz D σ H := s_ifApp (D := { D with nx := tz D }) G l0 hd hl hv h he hz k
/-- a new empty list of one's own -/
theorem q_newL (G : Gr Hd0 H0 Hd H) (k : ∀ l, H l = none → Hd l = none → Gr Hd0 H0 Hd (upd H l (.lst [])) → tz D (σ.set i (some (.ref l))) (upd H l (.lst []))) : tSeq (tAsg (tLst tNil) (gName i)) tz D σ H :=
  ⟨Nat.zero_le _, fun l hl => k l hl (G.s.free hl) (G.trans (.newM G.s hl))⟩

/-! ### targets -/
def Tg (g : TG) (σ : L2.St) (Hd : Hp) (x : V) (σ2 : L2.St) : Prop := ∀ H1, Same Hd H1 → ∀ Q : L2.St → Hp → Prop, Q σ2 H1 → g x σ H1 Q
theorem tg_name {x : V} : Tg (gName i) σ Hd x (σ.set i (some x)) := fun _ _ _ q => q
theorem tg_2 {j : Nat} {a : Addr} {u v : V} (h : Hd a = some (.tup [u, v])) : Tg (gTup K 2 (gCons (gName i) (gCons (gName j) gNil))) σ Hd (.ref a) ((σ.set i (some u)).set j (some v)) := fun H1 s Q q =>
  ⟨a, [u, v], rfl, SqT.of (s _ _ h), rfl, u, [v], rfl, v, [], rfl, rfl, q⟩
theorem tg_3 {j l : Nat} {a : Addr} {u v w : V} (h : Hd a = some (.tup [u, v, w])) : Tg (gTup K 3 (gCons (gName i) (gCons (gName j) (gCons (gName l) gNil)))) σ Hd (.ref a) (((σ.set i (some u)).set j (some v)).set l (some w)) := fun H1 s Q q =>
  ⟨a, [u, v, w], rfl, SqT.of (s _ _ h), rfl, u, [v, w], rfl, v, [w], rfl, w, [], rfl, rfl, q⟩
theorem Dt.tup2 {x : V} {d e : PyData} {Hd : Hp} (h : Dt Hd x (.tuple [d, e])) : ∃ a u v, x = .ref a ∧ Hd a = some (.tup [u, v]) ∧ Dt Hd u d ∧ Dt Hd v e := by
  obtain ⟨a, xs, rfl, ha, hx⟩ := h.tup_of
  obtain ⟨u, ws, rfl, h1, hx⟩ := hx.cons_of
  obtain ⟨w, ws, rfl, h2, hx⟩ := hx.cons_of
  rw [hx.nil_of] at ha
  exact ⟨a, u, w, rfl, ha, h1, h2⟩
theorem Dt.tup3 {x : V} {d e f : PyData} {Hd : Hp} (h : Dt Hd x (.tuple [d, e, f])) : ∃ a u v w, x = .ref a ∧ Hd a = some (.tup [u, v, w]) ∧ Dt Hd u d ∧ Dt Hd v e ∧ Dt Hd w f := by
  obtain ⟨a, xs, rfl, ha, hx⟩ := h.tup_of
  obtain ⟨u, ws, rfl, h1, hx⟩ := hx.cons_of
  obtain ⟨v, ws, rfl, h2, hx⟩ := hx.cons_of
  obtain ⟨w, ws, rfl, h3, hx⟩ := hx.cons_of
  rw [hx.nil_of] at ha
  exact ⟨a, u, v, w, rfl, ha, h1, h2, h3⟩

/-! ### loops -/
/-- for x in a list of data; J: what holds between two turns -/
theorem s_for {tl : TE} (G : Gr Hd0 H0 Hd H) (h : Ed tl σ H Hd (.list ds)) (J : Nat → L2.St → Hp → Hp → Prop) (h0 : ∀ Hd' H', Gr Hd0 H0 Hd' H' → Gr Hd H Hd' H' → J 0 σ Hd' H')
    (hs : ∀ Hd1, Same Hd Hd1 → ∀ i d x σ' Hd' H', ds[i]? = some d → Same Hd1 Hd' → Same Hd' H' → Dt Hd' x d → J i σ' Hd' H' →
      g x σ' H' fun σ2 H2 => tu { D with nx := fun σ3 H3 => ∃ Hd3, Same Hd1 Hd3 ∧ Same Hd3 H3 ∧ J (i + 1) σ3 Hd3 H3, ct := fun σ3 H3 => ∃ Hd3, Same Hd1 Hd3 ∧ Same Hd3 H3 ∧ J (i + 1) σ3 Hd3 H3, bk := D.nx } σ2 H2)
    (hd : ∀ σ' Hd' H', Same Hd Hd' → Same Hd' H' → J ds.length σ' Hd' H' → D.nx σ' H') : tFor (iList K tl) g tu D σ H :=
  h Hd H (.refl G.s) _ fun v Hd1 H1 g1 x1 => by
    obtain ⟨a, xs, rfl, ha, hx⟩ := x1.lst_of
    refine ⟨a, rfl, ⟨xs, SqL.of (g1.s _ _ ha)⟩, for_list (K := K) (a := a) (xs := xs) (fun i σ' H' => ∃ Hd', Same Hd1 Hd' ∧ Same Hd' H' ∧ J i σ' Hd' H') ⟨Hd1, Same.refl _, g1.s, h0 Hd1 H1 (G.trans g1) g1⟩
      (fun i σ' H' _ ⟨Hd', s1, s2, _⟩ => SqL.of (s2 _ _ (s1 _ _ ha))) (fun i x σ' H' hi ⟨Hd', s1, s2, j⟩ => ?_) fun σ' H' ⟨Hd', s1, s2, j⟩ => ?_⟩
    · obtain ⟨d, e1, e2⟩ := hx.getV hi
      exact hs Hd1 g1.d i d x σ' Hd' H' e1 s1 s2 (e2.mono s1) j
    · rw [hx.length] at j
      exact hd σ' Hd' H' (g1.d.trans s1) s2 j
theorem q_for {tl : TE} (G : Gr Hd0 H0 Hd H) (h : Ed tl σ H Hd (.list ds)) (J : Nat → L2.St → Hp → Hp → Prop) (h0 : ∀ Hd' H', Gr Hd0 H0 Hd' H' → Gr Hd H Hd' H' → J 0 σ Hd' H')
    (hs : ∀ Hd1, Same Hd Hd1 → ∀ i d x σ' Hd' H', ds[i]? = some d → Same Hd1 Hd' → Same Hd' H' → Dt Hd' x d → J i σ' Hd' H' →
      g x σ' H' fun σ2 H2 => tu { D with nx := fun σ3 H3 => ∃ Hd3, Same Hd1 Hd3 ∧ Same Hd3 H3 ∧ J (i + 1) σ3 Hd3 H3, ct := fun σ3 H3 => ∃ Hd3, Same Hd1 Hd3 ∧ Same Hd3 H3 ∧ J (i + 1) σ3 Hd3 H3, bk := tz D } σ2 H2)
    (hd : ∀ σ' Hd' H', Same Hd Hd' → Same Hd' H' → J ds.length σ' Hd' H' → tz D σ' H') : tSeq (tFor (iList K tl) g tu) tz D σ H :=
  s_for (D := { D with nx := tz D }) G h J h0 hs hd

/-! ### a list comprehension over data -/
theorem take_succ_get {α : Type} {l : List α} {i : Nat} {x : α} (h : l[i]? = some x) : l.take (i + 1) = l.take i ++ [x] := by
  rw [List.take_add_one, h]
  rfl
theorem ed_lc {α : Type} {tl te : TE} {vs : List Nat} (enc : α → PyData) (f : α → Option PyData) (xs : List α) (h : Ed tl σ H Hd (.list (xs.map enc))) (hz : xs.length < 1000000)
    (turn : ∀ Hd1 H1, Up Hd H Hd1 H1 → ∀ d ∈ xs, ∀ x, Dt Hd1 x (enc d) → ∃ σ2, Tg g (wipe σ vs) Hd1 x σ2 ∧ wipe σ2 vs = wipe σ vs ∧ Et tt σ2 H1 Hd1 (f d).isSome ∧ ∀ r, f d = some r → Ed te σ2 H1 Hd1 r) :
    Ed (tLc (iList K tl) g tt te vs) σ H Hd (.list (xs.filterMap f)) := fun Hd0 H0 a0 Q q =>
  h Hd0 H0 a0 _ fun v Hd1 H1 g1 x1 => by
    obtain ⟨a, zs, rfl, ha, hx⟩ := x1.lst_of
    refine ⟨a, rfl, ⟨zs, SqL.of (g1.s _ _ ha)⟩, fun Dl hD => lc_list (K := K) (a := a) (xs := zs) (fun i H' => ∃ Hd' ys, Gr Hd1 H1 Hd' H' ∧ Hd' Dl = none ∧ H' Dl = some (.lst ys) ∧ DtL Hd' ys ((xs.take i).filterMap f))
      ⟨Hd1, [], .newM g1.s hD, g1.s.free hD, upd_same, by rw [List.take_zero]; exact .nil⟩ (fun i H' _ ⟨Hd', ys, g2, _⟩ => SqL.of (g2.s _ _ (g2.d _ _ ha))) (fun i x H' hi ⟨Hd', ys, g2, n1, n2, hy⟩ => ?_) fun H' ⟨Hd', ys, g2, n1, n2, hy⟩ => ?_⟩
    · obtain ⟨d0, e0, e2⟩ := hx.getV hi
      obtain ⟨d, e1, rfl⟩ : ∃ d, xs[i]? = some d ∧ d0 = enc d := by
        rw [List.getElem?_map] at e0
        cases e : xs[i]? with
        | none => rw [e] at e0; cases e0
        | some d => rw [e] at e0; exact ⟨d, rfl, (Option.some.inj e0).symm⟩
      obtain ⟨σ2, t1, t2, t3, t4⟩ := turn Hd' H' ((a0.gr g1).gr g2) d (List.mem_of_getElem? e1) x (e2.mono g2.d)
      refine t1 H' g2.s _ ⟨t2, t3 Hd' H' (.refl g2.s) _ fun Hd3 H3 g3 => ?_⟩
      obtain ⟨m1, m2⟩ := g3.out n1 n2
      cases hf : f d with
      | none =>
        show ∃ Hd' ys, Gr Hd1 H1 Hd' H3 ∧ Hd' Dl = none ∧ H3 Dl = some (.lst ys) ∧ DtL Hd' ys ((xs.take (i + 1)).filterMap f)
        refine ⟨Hd3, ys, g2.trans g3, m1, m2, ?_⟩
        rw [take_succ_get e1, List.filterMap_append]
        have e : [d].filterMap f = [] := by simp [hf]
        rw [e, List.append_nil]
        exact hy.mono g3.d
      | some r =>
        refine t4 r hf Hd3 H3 g3.up _ fun y Hd4 H4 g4 y4 => ?_
        obtain ⟨k1, k2⟩ := g4.out m1 m2
        have hlen : ys.length < 1000000 := by
          have z := hy.length
          have z2 := List.length_filterMap_le f (xs.take i)
          have z3 : (xs.take i).length ≤ xs.length := by rw [List.length_take]; omega
          omega
        refine ⟨ys, k2, Nat.lt_of_lt_of_le hlen (by decide), Hd4, ys ++ [y], ((g2.trans g3).trans g4).mut hD k1, k1, upd_same, ?_⟩
        rw [take_succ_get e1, List.filterMap_append]
        have e : [d].filterMap f = [r] := by simp [hf]
        rw [e]
        exact (hy.mono (g3.d.trans g4.d)).append (.one y4)
    · have e : xs.take zs.length = xs := by rw [hx.length, List.length_map]; exact List.take_length
      rw [e] at hy
      have g3 := g2.frz hD n1 n2
      exact q _ _ _ (g1.trans g3) (.lst upd_same (hy.mono (upd_same_new n1)))
/-- without a test -/
theorem ed_lcMap {α : Type} {tl te : TE} {vs : List Nat} (enc h' : α → PyData) (xs : List α) (h : Ed tl σ H Hd (.list (xs.map enc))) (hz : xs.length < 1000000)
    (turn : ∀ Hd1 H1, Up Hd H Hd1 H1 → ∀ d ∈ xs, ∀ x, Dt Hd1 x (enc d) → ∃ σ2, Tg g (wipe σ vs) Hd1 x σ2 ∧ wipe σ2 vs = wipe σ vs ∧ Ed te σ2 H1 Hd1 (h' d)) :
    Ed (tLc (iList K tl) g tYes te vs) σ H Hd (.list (xs.map h')) :=
  (ed_lc enc (fun d => some (h' d)) xs h hz fun Hd1 H1 u d hd x hx => by
    obtain ⟨σ2, a, b, c⟩ := turn Hd1 H1 u d hd x hx
    refine ⟨σ2, a, b, et_yes, fun r e => ?_⟩
    cases e
    exact c).is (by rw [List.filterMap_eq_map'])
/-- with a test -/
theorem ed_lcFil {α : Type} {tl te : TE} {vs : List Nat} (enc h' : α → PyData) (p : α → Bool) (xs : List α) (h : Ed tl σ H Hd (.list (xs.map enc))) (hz : xs.length < 1000000)
    (turn : ∀ Hd1 H1, Up Hd H Hd1 H1 → ∀ d ∈ xs, ∀ x, Dt Hd1 x (enc d) → ∃ σ2, Tg g (wipe σ vs) Hd1 x σ2 ∧ wipe σ2 vs = wipe σ vs ∧ Et tt σ2 H1 Hd1 (p d) ∧ (p d = true → Ed te σ2 H1 Hd1 (h' d))) :
    Ed (tLc (iList K tl) g tt te vs) σ H Hd (.list ((xs.filter p).map h')) :=
  (ed_lc enc (fun d => if p d = true then some (h' d) else none) xs h hz fun Hd1 H1 u d hd x hx => by
    obtain ⟨σ2, a, b, c, e⟩ := turn Hd1 H1 u d hd x hx
    cases hp : p d with
    | true =>
      rw [hp] at c
      refine ⟨σ2, a, b, c, fun r er => ?_⟩
      simp at er
      subst er
      exact e hp
    | false =>
      rw [hp] at c
      exact ⟨σ2, a, b, c, fun r er => by simp at er⟩).is (by
        refine congrArg PyData.list ?_
        clear h hz turn
        induction xs with
        | nil => rfl
        | cons a r ih =>
          rw [List.filterMap_cons, List.filter_cons, ih]
          cases p a <;> rfl)

/-! ### the signs of a text; numbered items -/
theorem rd_inSign {c : Nat} {z : Str} : Rd2 (fun x y H Q => ∃ (c : Nat) (z : Str), x = .str ⟨#[c]⟩ ∧ y = .str z ∧ Q (.bl (decide (c ∈ z.cps.toList))) H) (.str ⟨#[c]⟩) (.str z) (.bool (decide (c ∈ z.cps.toList))) := fun Hd1 H1 b x y hx hy Q q =>
  ⟨c, z, hx.str_of, hy.str_of, q _ Hd1 H1 (.refl b) (.bl _)⟩
/-- [e for c in a text] -/
theorem ed_lcS {tl te : TE} {vs : List Nat} {x : Str} (h' : Nat → PyData) (h : Ed tl σ H Hd (.str x)) (hz : x.cps.toList.length < 1000000)
    (turn : ∀ Hd1 H1, Up Hd H Hd1 H1 → ∀ c, c ∈ x.cps.toList → ∃ σ2, Tg g (wipe σ vs) Hd1 (.str ⟨#[c]⟩) σ2 ∧ wipe σ2 vs = wipe σ vs ∧ Ed te σ2 H1 Hd1 (h' c)) :
    Ed (tLc (iStr tl) g tYes te vs) σ H Hd (.list (x.cps.toList.map h')) := fun Hd0 H0 a0 Q q =>
  h Hd0 H0 a0 _ fun v Hd1 H1 g1 x1 => by
    refine ⟨x, x1.str_of, fun Dl hD => ⟨fun i m H' => i + m = x.cps.size ∧ ∃ Hd' ys, Gr Hd1 H1 Hd' H' ∧ Hd' Dl = none ∧ H' Dl = some (.lst ys) ∧ DtL Hd' ys ((x.cps.toList.take i).map h'),
      ⟨x.cps.size, Nat.zero_add _, Hd1, [], .newM g1.s hD, g1.s.free hD, upd_same, by rw [List.take_zero]; exact .nil⟩, fun i m H' ⟨hm, Hd', ys, g2, n1, n2, hy⟩ => ?_⟩⟩
    cases m with
    | zero =>
      have e : x.cps.toList.take i = x.cps.toList := List.take_of_length_le (by rw [Array.length_toList]; omega)
      rw [e] at hy
      have g3 := g2.frz hD n1 n2
      exact .inl ⟨by show x.cps.size ≤ i; omega, q _ _ _ (g1.trans g3) (.lst upd_same (hy.mono (upd_same_new n1)))⟩
    | succ m =>
      refine .inr ⟨by show i < x.cps.size; omega, fun H' => ∃ Hd' ys, Gr Hd1 H1 Hd' H' ∧ Hd' Dl = none ∧ H' Dl = some (.lst ys) ∧ DtL Hd' ys ((x.cps.toList.take (i + 1)).map h'), fun H'' p => ⟨m, Nat.lt_succ_self _, by omega, p⟩, fun y H'' yy => ?_⟩
      obtain ⟨eH, c, hc, rfl⟩ := yy
      rw [eH]
      have e1 : x.cps.toList[i]? = some c := by rw [Array.getElem?_toList]; exact hc
      obtain ⟨σ2, t1, t2, t4⟩ := turn Hd' H' ((a0.gr g1).gr g2) c (List.mem_of_getElem? e1)
      refine t1 H' g2.s _ ⟨t2, ?_⟩
      show te σ2 H' _
      refine t4 Hd' H' (.refl g2.s) _ fun y Hd4 H4 g4 y4 => ?_
      obtain ⟨k1, k2⟩ := g4.out n1 n2
      have hlen : ys.length < 1000000 := by
        have z := hy.length
        rw [List.length_map, List.length_take] at z
        omega
      refine ⟨ys, k2, Nat.lt_of_lt_of_le hlen (by decide), Hd4, ys ++ [y], (g2.trans g4).mut hD k1, k1, upd_same, ?_⟩
      rw [take_succ_get e1, List.map_append]
      exact (hy.mono g4.d).append (.one y4)
/-- for i, x in enumerate(a list of data) -/
theorem s_forE {ta : TA} (G : Gr Hd0 H0 Hd H) (h : Ea ta σ H Hd [.list ds]) (J : Nat → L2.St → Hp → Hp → Prop) (h0 : ∀ Hd' H', Gr Hd0 H0 Hd' H' → Gr Hd H Hd' H' → J 0 σ Hd' H')
    (hs : ∀ Hd1, Same Hd Hd1 → ∀ (i : Nat) d x σ' Hd' H' Hd2 H2, ds[i]? = some d → Same Hd1 Hd' → Same Hd' H' → Gr Hd' H' Hd2 H2 → Dt Hd2 x (.tuple [.int (i : Int), d]) → J i σ' Hd' H' →
      g x σ' H2 fun σ2 H2 => tu { D with nx := fun σ3 H3 => ∃ Hd3, Same Hd1 Hd3 ∧ Same Hd3 H3 ∧ J (i + 1) σ3 Hd3 H3, ct := fun σ3 H3 => ∃ Hd3, Same Hd1 Hd3 ∧ Same Hd3 H3 ∧ J (i + 1) σ3 Hd3 H3, bk := D.nx } σ2 H2)
    (hd : ∀ σ' Hd' H', Same Hd Hd' → Same Hd' H' → J ds.length σ' Hd' H' → D.nx σ' H') : tFor (iEnum K ta) g tu D σ H :=
  h Hd H (.refl G.s) _ fun vs Hd1 H1 g1 x1 => by
    obtain ⟨v, ws, rfl, x1, hx⟩ := x1.cons_of
    rw [hx.nil_of]
    obtain ⟨a, xs, rfl, ha, hx⟩ := x1.lst_of
    refine ⟨a, xs, rfl, SqL.of (g1.s _ _ ha), fun i m σ' H' => i + m = xs.length ∧ ∃ Hd', Same Hd1 Hd' ∧ Same Hd' H' ∧ J i σ' Hd' H', ⟨xs.length, Nat.zero_add _, Hd1, Same.refl _, g1.s, h0 Hd1 H1 (G.trans g1) g1⟩, fun i m σ' H' ⟨hm, Hd', s1, s2, j⟩ => ?_⟩
    have sq : SqL K H' a xs := SqL.of (s2 _ _ (s1 _ _ ha))
    cases m with
    | zero =>
      have e : i = ds.length := by rw [← hx.length]; omega
      subst e
      exact .inl ⟨⟨xs, sq, by omega⟩, hd σ' Hd' H' (g1.d.trans s1) s2 j⟩
    | succ m =>
      have lt : i < xs.length := by omega
      refine .inr ⟨⟨xs, xs[i], sq, List.getElem?_eq_getElem lt⟩, fun σ3 H3 => ∃ Hd3, Same Hd1 Hd3 ∧ Same Hd3 H3 ∧ J (i + 1) σ3 Hd3 H3, fun σ'' H'' p => ⟨m, Nat.lt_succ_self _, by omega, p⟩, fun y H'' yy => ?_⟩
      obtain ⟨T, x, rfl, hT, rfl, hxs⟩ := yy
      obtain ⟨d, e1, e2⟩ := hx.getV (hxs xs sq)
      have gn : Gr Hd' H' (upd Hd' T (.tup [.int (i : Nat), x])) (upd H' T (.tup [.int (i : Nat), x])) := .new s2 hT
      exact hs Hd1 g1.d i d _ σ' Hd' H' _ _ e1 s1 s2 gn (.tup upd_same (.cons (.int _) (.one ((e2.mono s1).mono gn.d)))) j
theorem q_forE {ta : TA} (G : Gr Hd0 H0 Hd H) (h : Ea ta σ H Hd [.list ds]) (J : Nat → L2.St → Hp → Hp → Prop) (h0 : ∀ Hd' H', Gr Hd0 H0 Hd' H' → Gr Hd H Hd' H' → J 0 σ Hd' H')
    (hs : ∀ Hd1, Same Hd Hd1 → ∀ (i : Nat) d x σ' Hd' H' Hd2 H2, ds[i]? = some d → Same Hd1 Hd' → Same Hd' H' → Gr Hd' H' Hd2 H2 → Dt Hd2 x (.tuple [.int (i : Int), d]) → J i σ' Hd' H' →
      g x σ' H2 fun σ2 H2 => tu { D with nx := fun σ3 H3 => ∃ Hd3, Same Hd1 Hd3 ∧ Same Hd3 H3 ∧ J (i + 1) σ3 Hd3 H3, ct := fun σ3 H3 => ∃ Hd3, Same Hd1 Hd3 ∧ Same Hd3 H3 ∧ J (i + 1) σ3 Hd3 H3, bk := tz D } σ2 H2)
    (hd : ∀ σ' Hd' H', Same Hd Hd' → Same Hd' H' → J ds.length σ' Hd' H' → tz D σ' H') : tSeq (tFor (iEnum K ta) g tu) tz D σ H :=
  s_forE (D := { D with nx := tz D }) G h J h0 hs hd
end
end T45

/-! The mathematics: questions, places, the search in breadth, and that it tells the least of the shortest chains. No program in sight. -/
namespace T45

/-- the texts that are members and tests, in their order -/
inductive Sy where
  | hash | star | la | lb | lc
  deriving DecidableEq
def Sy.ix : Sy → Nat
  | .hash => 1 | .star => 2 | .la => 3 | .lb => 4 | .lc => 5
theorem Sy.ix_pos (s : Sy) : 1 ≤ s.ix ∧ s.ix ≤ 5 := by cases s <;> decide
theorem Sy.ix_inj {s t : Sy} (h : s.ix = t.ix) : s = t := by cases s <;> cases t <;> first | rfl | (exact absurd h (by decide))

/-- steps: below?, the test -/
abbrev Qn := List (Bool × Sy)
abbrev Pr := List Nat × List Nat
abbrev En := Pr × List Sy

def passes (t m : Sy) : Bool := decide (t = m) || (decide (t = .star) && !decide (m = .hash))
def below (q : Qn) (k : Nat) : Bool := match q[k]? with
  | some s => s.1
  | none => false
def passAt (q : Qn) (m : Sy) (k : Nat) : Bool := match q[k]? with
  | some s => passes s.2 m
  | none => false
def hit (q : Qn) (ps : List Nat) (m : Sy) (k : Nat) : Bool :=
  (decide (k ∈ ps) && below q k) || (match k with
    | 0 => false
    | j + 1 => decide (j ∈ ps) && passAt q m j)
def next (q : Qn) (ps : List Nat) (m : Sy) : List Nat := (List.range (q.length + 1)).filter (hit q ps m)
def places (q : Qn) (c : List Sy) : List Nat := c.foldl (next q) [0]
def takes (q : Qn) (c : List Sy) : Bool := decide (q.length ∈ places q c)

theorem below_lt {q : Qn} {k : Nat} (h : below q k = true) : k < q.length := by
  unfold below at h
  split at h
  · rename_i s e
    exact (List.getElem?_eq_some_iff.mp e).1
  · cases h
theorem passAt_lt {q : Qn} {m : Sy} {k : Nat} (h : passAt q m k = true) : k < q.length := by
  unfold passAt at h
  split at h
  · rename_i s e
    exact (List.getElem?_eq_some_iff.mp e).1
  · cases h
theorem hit_le {q : Qn} {ps : List Nat} {m : Sy} {k : Nat} (h : hit q ps m k = true) : k ≤ q.length := by
  unfold hit at h
  rw [Bool.or_eq_true, Bool.and_eq_true] at h
  rcases h with h | h
  · exact Nat.le_of_lt (below_lt h.2)
  · cases k with
    | zero => cases h
    | succ j =>
      simp only [Bool.and_eq_true] at h
      exact passAt_lt h.2
theorem mem_next {q : Qn} {ps : List Nat} {m : Sy} {k : Nat} : k ∈ next q ps m ↔ hit q ps m k = true := by
  unfold next
  rw [List.mem_filter, List.mem_range]
  exact ⟨fun h => h.2, fun h => ⟨Nat.lt_succ_of_le (hit_le h), h⟩⟩
theorem next_le {q : Qn} {ps : List Nat} {m : Sy} {k : Nat} (h : k ∈ next q ps m) : k ≤ q.length := hit_le (mem_next.mp h)
theorem next_sorted (q : Qn) (ps : List Nat) (m : Sy) : (next q ps m).Pairwise (· < ·) := List.Pairwise.filter _ List.pairwise_lt_range
theorem next_len (q : Qn) (ps : List Nat) (m : Sy) : (next q ps m).length ≤ q.length + 1 := by
  unfold next
  have := List.length_filter_le (hit q ps m) (List.range (q.length + 1))
  rw [List.length_range] at this
  exact this
/-- strictly rising lists with the same members are one -/
theorem sorted_ext : ∀ {l l' : List Nat}, l.Pairwise (· < ·) → l'.Pairwise (· < ·) → (∀ k, k ∈ l ↔ k ∈ l') → l = l'
  | [], [], _, _, _ => rfl
  | [], y :: r', _, _, h => absurd ((h y).mpr List.mem_cons_self) (by simp)
  | x :: r, [], _, _, h => absurd ((h x).mp List.mem_cons_self) (by simp)
  | x :: r, y :: r', a, b, h => by
    obtain ⟨a1, a2⟩ := List.pairwise_cons.mp a
    obtain ⟨b1, b2⟩ := List.pairwise_cons.mp b
    have e : x = y := by
      rcases List.mem_cons.mp ((h x).mp List.mem_cons_self) with e | m
      · exact e
      · rcases List.mem_cons.mp ((h y).mpr List.mem_cons_self) with e | m'
        · exact e.symm
        · have := b1 x m
          have := a1 y m'
          omega
    subst e
    rw [sorted_ext a2 b2 fun k => ?_]
    constructor
    · intro m
      rcases List.mem_cons.mp ((h k).mp (List.mem_cons_of_mem _ m)) with e | m'
      · subst e
        exact absurd (a1 _ m) (Nat.lt_irrefl _)
      · exact m'
    · intro m
      rcases List.mem_cons.mp ((h k).mpr (List.mem_cons_of_mem _ m)) with e | m'
      · subst e
        exact absurd (b1 _ m) (Nat.lt_irrefl _)
      · exact m'

/-- the members for two questions -/
def mems (q1 q2 : Qn) : List Sy :=
  if Sy.la ∈ (q1 ++ q2).map (·.2) ∧ Sy.lb ∈ (q1 ++ q2).map (·.2) then [.hash, .la, .lb, .lc]
  else if Sy.la ∈ (q1 ++ q2).map (·.2) ∨ Sy.lb ∈ (q1 ++ q2).map (·.2) then [.hash, .la, .lb] else [.hash, .la]
theorem mems_cases (q1 q2 : Qn) : mems q1 q2 = [.hash, .la, .lb, .lc] ∨ mems q1 q2 = [.hash, .la, .lb] ∨ mems q1 q2 = [.hash, .la] := by
  unfold mems
  split
  · exact .inl rfl
  · split
    · exact .inr (.inl rfl)
    · exact .inr (.inr rfl)
theorem mems_sorted (q1 q2 : Qn) : (mems q1 q2).Pairwise fun a b => a.ix < b.ix := by
  rcases mems_cases q1 q2 with e | e | e <;> rw [e] <;> decide
theorem mems_len (q1 q2 : Qn) : (mems q1 q2).length ≤ 4 := by
  rcases mems_cases q1 q2 with e | e | e <;> rw [e] <;> decide
theorem mems_la (q1 q2 : Qn) : Sy.la ∈ mems q1 q2 := by
  rcases mems_cases q1 q2 with e | e | e <;> rw [e] <;> decide

def aft (q1 q2 : Qn) (p : Pr) (m : Sy) : Pr := (next q1 p.1 m, next q2 p.2 m)
def due (q1 q2 : Qn) (p : Pr) : List (Sy × Pr) := (mems q1 q2).map fun m => (m, aft q1 q2 p m)
def begun (q1 q2 : Qn) : List (Sy × Pr) := (due q1 q2 ([0], [0])).filter fun x => !decide (x.1 = Sy.hash)
def agree (w : Bool) (q1 q2 : Qn) (p : Pr) : Bool :=
  if w = true then decide (q2.length ∈ p.2) || !decide (q1.length ∈ p.1) else decide (q1.length ∈ p.1) == decide (q2.length ∈ p.2)
def parts (w : Bool) (q1 q2 : Qn) (c : List Sy) : Bool := if w = true then takes q1 c && !takes q2 c else !(takes q1 c == takes q2 c)

/-- one list of what is due: the chain that parts, or what is found -/
def proc (w : Bool) (q1 q2 : Qn) (ch : List Sy) : List (Sy × Pr) → List En → Except (List Sy) (List En)
  | [], acc => .ok acc
  | (m, a) :: r, acc =>
    if agree w q1 q2 a = true then
      (if m ≠ Sy.hash ∧ a ∉ acc.map (·.1) then proc w q1 q2 ch r (acc ++ [(a, ch ++ [m])]) else proc w q1 q2 ch r acc)
    else .error (ch ++ [m])
def dueAt (q1 q2 : Qn) (acc : List En) : Nat → List (Sy × Pr)
  | 0 => begun q1 q2
  | i + 1 => match acc[i]? with
    | some e => due q1 q2 e.1
    | none => []
def chAt (acc : List En) : Nat → List Sy
  | 0 => []
  | i + 1 => match acc[i]? with
    | some e => e.2
    | none => []
/-- the search, n turns at most, from turn i on -/
def go (w : Bool) (q1 q2 : Qn) : Nat → Nat → List En → Option (Except (List Sy) (List En))
  | 0, _, _ => none
  | n + 1, i, acc => match proc w q1 q2 (chAt acc i) (dueAt q1 q2 acc i) acc with
    | .error c => some (.error c)
    | .ok acc' => if acc'.length ≤ i then some (.ok acc') else go w q1 q2 n (i + 1) acc'

theorem go_more {w : Bool} {q1 q2 : Qn} {r : Except (List Sy) (List En)} : ∀ {n i : Nat} {acc : List En} (k : Nat), go w q1 q2 n i acc = some r → go w q1 q2 (n + k) i acc = some r
  | 0, _, _, _, h => by cases h
  | n + 1, i, acc, k, h => by
    have e : n + 1 + k = (n + k) + 1 := by omega
    rw [e]
    unfold go at h ⊢
    split at h
    · exact h
    · rename_i acc' _
      by_cases hc : acc'.length ≤ i
      · rw [if_pos hc] at h ⊢
        exact h
      · rw [if_neg hc] at h ⊢
        exact go_more k h

/-! ### it ends -/
def subs : List Nat → List (List Nat)
  | [] => [[]]
  | x :: r => (subs r).map (x :: ·) ++ subs r
theorem subs_len : ∀ l : List Nat, (subs l).length = 2 ^ l.length
  | [] => rfl
  | x :: r => by
    unfold subs
    rw [List.length_append, List.length_map, subs_len r, List.length_cons, Nat.pow_succ]
    omega
theorem filter_subs (p : Nat → Bool) : ∀ l : List Nat, l.filter p ∈ subs l
  | [] => by simp [subs]
  | x :: r => by
    unfold subs
    have ih := filter_subs p r
    rw [List.filter_cons]
    split
    · exact List.mem_append_left _ (List.mem_map.mpr ⟨_, ih, rfl⟩)
    · exact List.mem_append_right _ ih
def allPr (q1 q2 : Qn) : List Pr := (subs (List.range (q1.length + 1))).flatMap fun a => (subs (List.range (q2.length + 1))).map fun b => (a, b)
theorem aft_all (q1 q2 : Qn) (p : Pr) (m : Sy) : aft q1 q2 p m ∈ allPr q1 q2 :=
  List.mem_flatMap.mpr ⟨_, filter_subs _ _, List.mem_map.mpr ⟨_, filter_subs _ _, rfl⟩⟩
theorem flat_len {α β : Type} (f : α → List β) (k : Nat) : ∀ (l : List α), (∀ a ∈ l, (f a).length = k) → (l.flatMap f).length = l.length * k
  | [], _ => by simp
  | a :: r, h => by
    rw [List.flatMap_cons, List.length_append, flat_len f k r fun b hb => h b (List.mem_cons_of_mem _ hb), h a List.mem_cons_self, List.length_cons, Nat.succ_mul]
    omega
theorem allPr_len {q1 q2 : Qn} (h1 : q1.length ≤ 4) (h2 : q2.length ≤ 4) : (allPr q1 q2).length ≤ 1024 := by
  unfold allPr
  rw [flat_len _ (2 ^ (q2.length + 1)) _ fun a _ => by rw [List.length_map, subs_len, List.length_range], subs_len, List.length_range]
  have a1 : 2 ^ (q1.length + 1) ≤ 2 ^ 5 := Nat.pow_le_pow_right (by decide) (by omega)
  have a2 : 2 ^ (q2.length + 1) ≤ 2 ^ 5 := Nat.pow_le_pow_right (by decide) (by omega)
  exact Nat.mul_le_mul a1 a2
theorem nodup_len {α : Type} [DecidableEq α] : ∀ (l D : List α), l.Nodup → (∀ x ∈ l, x ∈ D) → l.length ≤ D.length
  | [], _, _, _ => Nat.zero_le _
  | x :: l, D, hn, hs => by
    obtain ⟨h1, h2⟩ := List.nodup_cons.mp hn
    have hx : x ∈ D := hs x List.mem_cons_self
    have ih := nodup_len l (D.erase x) h2 fun y hy => by
      have hne : y ≠ x := fun e => h1 (e ▸ hy)
      exact (List.mem_erase_of_ne hne).2 (hs y (List.mem_cons_of_mem _ hy))
    have e := List.length_erase_of_mem hx
    have hp : 0 < D.length := List.length_pos_of_mem hx
    rw [List.length_cons]
    omega
/-- what is found is found once, among all -/
structure Few (q1 q2 : Qn) (acc : List En) : Prop where
  nd : (acc.map (·.1)).Nodup
  all : ∀ e ∈ acc, e.1 ∈ allPr q1 q2
theorem Few.len {q1 q2 : Qn} {acc : List En} (h : Few q1 q2 acc) (h1 : q1.length ≤ 4) (h2 : q2.length ≤ 4) : acc.length ≤ 1024 := by
  have := nodup_len _ (allPr q1 q2) h.nd fun x hx => by
    obtain ⟨e, he, rfl⟩ := List.mem_map.mp hx
    exact h.all e he
  rw [List.length_map] at this
  exact Nat.le_trans this (allPr_len h1 h2)
theorem Few.snoc {q1 q2 : Qn} {acc : List En} {a : Pr} {c : List Sy} (h : Few q1 q2 acc) (hn : a ∉ acc.map (·.1)) (ha : a ∈ allPr q1 q2) : Few q1 q2 (acc ++ [(a, c)]) where
  nd := by
    rw [List.map_append, List.map_singleton, List.nodup_append]
    exact ⟨h.nd, by simp, fun x hx y hy => by
      simp only [List.mem_singleton] at hy
      subst hy
      intro e
      subst e
      exact hn hx⟩
  all := fun e he => by
    rcases List.mem_append.mp he with he | he
    · exact h.all e he
    · simp only [List.mem_singleton] at he
      subst he
      exact ha
theorem proc_few {w : Bool} {q1 q2 : Qn} {ch : List Sy} : ∀ {ds : List (Sy × Pr)} {acc acc' : List En}, (∀ x ∈ ds, x.2 ∈ allPr q1 q2) → Few q1 q2 acc → proc w q1 q2 ch ds acc = .ok acc' → Few q1 q2 acc'
  | [], acc, acc', _, h, e => by
    unfold proc at e
    cases e
    exact h
  | (m, a) :: r, acc, acc', hd, h, e => by
    unfold proc at e
    have hr : ∀ x ∈ r, x.2 ∈ allPr q1 q2 := fun x hx => hd x (List.mem_cons_of_mem _ hx)
    split at e
    · split at e
      · rename_i _ hc
        exact proc_few hr (h.snoc hc.2 (hd (m, a) List.mem_cons_self)) e
      · exact proc_few hr h e
    · cases e
theorem due_all (q1 q2 : Qn) (p : Pr) : ∀ x ∈ due q1 q2 p, x.2 ∈ allPr q1 q2 := fun x hx => by
  obtain ⟨m, _, rfl⟩ := List.mem_map.mp hx
  exact aft_all ..
theorem dueAt_all (q1 q2 : Qn) (acc : List En) (i : Nat) : ∀ x ∈ dueAt q1 q2 acc i, x.2 ∈ allPr q1 q2 := fun x hx => by
  cases i with
  | zero => exact due_all q1 q2 ([0], [0]) x (List.mem_filter.mp (show x ∈ (due q1 q2 ([0], [0])).filter _ from hx)).1
  | succ i =>
    have hx : x ∈ (match acc[i]? with | some e => due q1 q2 e.1 | none => []) := hx
    cases e : acc[i]? with
    | some en =>
      rw [e] at hx
      exact due_all _ _ _ x hx
    | none =>
      rw [e] at hx
      cases hx
theorem go_ends {w : Bool} {q1 q2 : Qn} (h1 : q1.length ≤ 4) (h2 : q2.length ≤ 4) : ∀ (n i : Nat) (acc : List En), i ≤ 1024 → 1025 ≤ n + i → Few q1 q2 acc → ∃ r, go w q1 q2 n i acc = some r
  | 0, i, acc, hi, hn, _ => by omega
  | n + 1, i, acc, hi, hn, f => by
    unfold go
    split
    · exact ⟨_, rfl⟩
    · rename_i acc' e
      split
      · exact ⟨_, rfl⟩
      · have f' := proc_few (dueAt_all q1 q2 acc i) f e
        have := f'.len h1 h2
        exact go_ends h1 h2 n (i + 1) acc' (by omega) (by omega) f'
theorem few_nil (q1 q2 : Qn) : Few q1 q2 [] := ⟨by simp, fun _ h => by cases h⟩

/-! ### chains by numbers -/
def num (c : List Sy) : Nat := c.foldl (fun n s => 6 * n + s.ix) 0
theorem num_snoc (c : List Sy) (m : Sy) : num (c ++ [m]) = 6 * num c + m.ix := by
  unfold num
  rw [List.foldl_append]
  rfl
theorem places_snoc (q : Qn) (c : List Sy) (m : Sy) : places q (c ++ [m]) = next q (places q c) m := by
  unfold places
  rw [List.foldl_append]
  rfl
def PP (q1 q2 : Qn) (c : List Sy) : Pr := (places q1 c, places q2 c)
theorem PP_snoc (q1 q2 : Qn) (c : List Sy) (m : Sy) : PP q1 q2 (c ++ [m]) = aft q1 q2 (PP q1 q2 c) m := by
  unfold PP aft
  rw [places_snoc, places_snoc]
theorem agree_parts (w : Bool) (q1 q2 : Qn) (c : List Sy) : agree w q1 q2 (PP q1 q2 c) = !parts w q1 q2 c := by
  unfold agree parts takes PP
  dsimp only
  cases w <;> cases decide (q1.length ∈ places q1 c) <;> cases decide (q2.length ∈ places q2 c) <;> rfl
/-- the j-th node: the beginning, then what is found -/
def node (acc : List En) : Nat → List Sy := chAt acc
theorem node_zero (acc : List En) : node acc 0 = [] := rfl
theorem node_succ {acc : List En} {i : Nat} {e : En} (h : acc[i]? = some e) : node acc (i + 1) = e.2 := by
  show (match acc[i]? with | some e => e.2 | none => []) = e.2
  rw [h]
theorem node_app {acc more : List En} {i : Nat} (h : i ≤ acc.length) : node (acc ++ more) i = node acc i := by
  cases i with
  | zero => rfl
  | succ i =>
    have e : (acc ++ more)[i]? = acc[i]? := List.getElem?_append_left (by omega)
    show (match (acc ++ more)[i]? with | some e => e.2 | none => []) = (match acc[i]? with | some e => e.2 | none => [])
    rw [e]
def msAt (q1 q2 : Qn) : Nat → List Sy
  | 0 => (mems q1 q2).filter fun m => !decide (m = Sy.hash)
  | _ + 1 => mems q1 q2
theorem msAt_sub {q1 q2 : Qn} {i : Nat} {m : Sy} (h : m ∈ msAt q1 q2 i) : m ∈ mems q1 q2 := by
  cases i with
  | zero => exact (List.mem_filter.mp h).1
  | succ i => exact h
theorem msAt_of {q1 q2 : Qn} {i : Nat} {m : Sy} (h : m ∈ mems q1 q2) (hh : m ≠ .hash) : m ∈ msAt q1 q2 i := by
  cases i with
  | zero => exact List.mem_filter.mpr ⟨h, by simp [hh]⟩
  | succ i => exact h
theorem msAt_sorted (q1 q2 : Qn) (i : Nat) : (msAt q1 q2 i).Pairwise fun a b => a.ix < b.ix := by
  cases i with
  | zero => exact (mems_sorted q1 q2).filter _
  | succ i => exact mems_sorted q1 q2
/-- what stands of each found pair -/
structure Ent (q1 q2 : Qn) (e : En) : Prop where
  pp : e.1 = PP q1 q2 e.2
  mem : ∀ s ∈ e.2, s ∈ mems q1 q2 ∧ s ≠ Sy.hash
/-- m has been looked at behind the chain ch -/
def Seen (w : Bool) (q1 q2 : Qn) (acc : List En) (ch : List Sy) (m : Sy) : Prop :=
  parts w q1 q2 (ch ++ [m]) = false ∧ (m ≠ .hash → ∃ e ∈ acc, e.1 = PP q1 q2 (ch ++ [m]) ∧ num e.2 ≤ num (ch ++ [m]))
theorem Seen.more {w : Bool} {q1 q2 : Qn} {acc more : List En} {ch : List Sy} {m : Sy} (h : Seen w q1 q2 acc ch m) : Seen w q1 q2 (acc ++ more) ch m :=
  ⟨h.1, fun hm => let ⟨e, he, a, b⟩ := h.2 hm; ⟨e, List.mem_append_left _ he, a, b⟩⟩
/-- the search stands at turn i: what holds -/
structure Bfs (w : Bool) (q1 q2 : Qn) (i : Nat) (acc : List En) : Prop where
  ent : ∀ e ∈ acc, Ent q1 q2 e
  ris : (acc.map fun e => num e.2).Pairwise (· < ·)
  pos : ∀ e ∈ acc, 0 < num e.2
  le : i ≤ acc.length
  old : ∀ e ∈ acc, num e.2 ≤ 6 * num (node acc i)
  seen : ∀ j, j < i → ∀ m ∈ msAt q1 q2 j, Seen w q1 q2 acc (node acc j) m
theorem bfs_nil (w : Bool) (q1 q2 : Qn) : Bfs w q1 q2 0 [] := ⟨fun _ h => (nomatch h), List.Pairwise.nil, fun _ h => (nomatch h), Nat.le_refl _, fun _ h => (nomatch h), fun j h => absurd h (Nat.not_lt_zero _)⟩
/-- within a turn: the members dn have been looked at, ms are left -/
structure Mid (w : Bool) (q1 q2 : Qn) (i : Nat) (ch : List Sy) (dn ms : List Sy) (acc : List En) : Prop where
  ent : ∀ e ∈ acc, Ent q1 q2 e
  ris : (acc.map fun e => num e.2).Pairwise (· < ·)
  pos : ∀ e ∈ acc, 0 < num e.2
  le : i ≤ acc.length
  nd : node acc i = ch
  cm : ∀ s ∈ ch, s ∈ mems q1 q2 ∧ s ≠ Sy.hash
  old : ∀ e ∈ acc, num e.2 ≤ 6 * num ch + 5
  lt : ∀ e ∈ acc, ∀ m ∈ ms, num e.2 < 6 * num ch + m.ix
  seen : ∀ j, j < i → ∀ m ∈ msAt q1 q2 j, Seen w q1 q2 acc (node acc j) m
  now : ∀ m ∈ dn, Seen w q1 q2 acc ch m
  rs : ms.Pairwise fun a b => a.ix < b.ix
  mm : ∀ m ∈ ms, m ∈ mems q1 q2
def dues (q1 q2 : Qn) (p : Pr) (ms : List Sy) : List (Sy × Pr) := ms.map fun m => (m, aft q1 q2 p m)
/-- a chain that parts, and the least one -/
structure Told (w : Bool) (q1 q2 : Qn) (c : List Sy) : Prop where
  parts : parts w q1 q2 c = true
  cut : ∃ ch m, c = ch ++ [m] ∧ (∀ s ∈ ch, s ∈ mems q1 q2 ∧ s ≠ Sy.hash) ∧ m ∈ mems q1 q2
  least : ∀ y m, (∀ s ∈ y, s ∈ mems q1 q2 ∧ s ≠ Sy.hash) → m ∈ mems q1 q2 → (y ≠ [] ∨ m ≠ .hash) → T45.parts w q1 q2 (y ++ [m]) = true → num c ≤ num (y ++ [m])
/-- a node for each chain that is not greater -/
theorem reach {w : Bool} {q1 q2 : Qn} {i : Nat} {acc : List En} (ent : ∀ e ∈ acc, Ent q1 q2 e) (ris : (acc.map fun e => num e.2).Pairwise (· < ·)) (pos : ∀ e ∈ acc, 0 < num e.2) (le : i ≤ acc.length)
    (seen : ∀ j, j < i → ∀ m ∈ msAt q1 q2 j, Seen w q1 q2 acc (node acc j) m) :
    ∀ (n : Nat) (y : List Sy), y.length = n → (∀ s ∈ y, s ∈ mems q1 q2 ∧ s ≠ Sy.hash) → num y ≤ num (node acc i) → ∃ j, j ≤ i ∧ num (node acc j) ≤ num y ∧ PP q1 q2 (node acc j) = PP q1 q2 y ∧ (y ≠ [] → 1 ≤ j) := by
  intro n
  induction n with
  | zero =>
    intro y hy _ _
    have e : y = [] := List.length_eq_zero_iff.mp hy
    subst e
    exact ⟨0, Nat.zero_le _, Nat.le_refl _, rfl, fun h => absurd rfl h⟩
  | succ n ih =>
    intro y hy hm hle
    rcases List.eq_nil_or_concat y with e | ⟨y0, m0, e⟩
    · subst e
      simp at hy
    · rw [List.concat_eq_append] at e
      subst e
      have hy0 : y0.length = n := by
        rw [List.length_append, List.length_singleton] at hy
        omega
      obtain ⟨hm0, hh0⟩ := hm m0 (by simp)
      have hn := num_snoc y0 m0
      have hix := m0.ix_pos
      obtain ⟨j, hj, h1, h2, _⟩ := ih y0 hy0 (fun s hs => hm s (List.mem_append_left _ hs)) (by omega)
      have hji : j < i := by
        rcases Nat.lt_or_ge j i with h | h
        · exact h
        · have : j = i := by omega
          subst this
          omega
      obtain ⟨_, hs⟩ := seen j hji m0 (msAt_of hm0 hh0)
      obtain ⟨e, he, h3, h4⟩ := hs hh0
      rw [num_snoc] at h4
      obtain ⟨k, hk, ek⟩ := List.mem_iff_getElem.mp he
      have hk? : acc[k]? = some e := by rw [List.getElem?_eq_getElem hk, ek]
      have nk : node acc (k + 1) = e.2 := node_succ hk?
      refine ⟨k + 1, ?_, ?_, ?_, fun _ => by omega⟩
      · rcases Nat.lt_or_ge k i with h | h
        · exact h
        · exfalso
          -- the node i stands ahead
          cases i with
          | zero => omega
          | succ i =>
            have hi : i < acc.length := by omega
            have hi? : acc[i]? = some acc[i] := List.getElem?_eq_getElem hi
            have ni : node acc (i + 1) = acc[i].2 := node_succ hi?
            have lt : num acc[i].2 < num e.2 := by
              have := List.pairwise_iff_getElem.mp ris i k (by simpa using hi) (by simpa using hk) (by omega)
              simp only [List.getElem_map] at this
              rw [ek] at this
              exact this
            rw [ni] at hle
            omega
      · rw [nk]
        omega
      · rw [nk, ← (ent e he).pp, h3, PP_snoc, PP_snoc, h2]
/-- the least chain: what parts first -/
theorem Mid.told {w : Bool} {q1 q2 : Qn} {i : Nat} {ch dn ms : List Sy} {m : Sy} {acc : List En} (h : Mid w q1 q2 i ch dn (m :: ms) acc) (hall : msAt q1 q2 i = dn ++ m :: ms) (hp : parts w q1 q2 (ch ++ [m]) = true) : Told w q1 q2 (ch ++ [m]) := by
  refine ⟨hp, ⟨ch, m, rfl, h.cm, h.mm m List.mem_cons_self⟩, fun y x hy hx hne hyx => ?_⟩
  rcases Nat.lt_or_ge (num (y ++ [x])) (num (ch ++ [m])) with lt | ge
  · exfalso
    have n1 := num_snoc y x
    have n2 := num_snoc ch m
    have i1 := x.ix_pos
    have i2 := m.ix_pos
    obtain ⟨j, hj, h1, h2, h3⟩ := reach (w := w) h.ent h.ris h.pos h.le h.seen y.length y rfl hy (by rw [h.nd]; omega)
    have pj : parts w q1 q2 (node acc j ++ [x]) = true := by
      have e : PP q1 q2 (node acc j ++ [x]) = PP q1 q2 (y ++ [x]) := by rw [PP_snoc, PP_snoc, h2]
      have a1 := agree_parts w q1 q2 (node acc j ++ [x])
      have a2 := agree_parts w q1 q2 (y ++ [x])
      rw [e, a2, hyx] at a1
      cases q : parts w q1 q2 (node acc j ++ [x]) with
      | true => rfl
      | false => rw [q] at a1; cases a1
    -- x stands among what is looked at behind node j
    have xm : x ∈ msAt q1 q2 j := by
      cases j with
      | succ j => exact hx
      | zero =>
        refine msAt_of hx fun e => ?_
        subst e
        rcases hne with hne | hne
        · have := h3 hne
          omega
        · exact hne rfl
    rcases Nat.lt_or_ge j i with hji | hji
    · have := (h.seen j hji x xm).1
      rw [pj] at this
      cases this
    · have e : j = i := by omega
      subst e
      rw [h.nd] at h1 pj
      have hlt : x.ix < m.ix := by omega
      rw [hall] at xm
      rcases List.mem_append.mp xm with k | k
      · have := (h.now x k).1
        rw [pj] at this
        cases this
      · rcases List.mem_cons.mp k with k | k
        · subst k
          omega
        · have := List.pairwise_cons.mp h.rs
          have := this.1 x k
          omega
  · exact ge

/-- a list of what is due, told -/
theorem proc_mid {w : Bool} {q1 q2 : Qn} {i : Nat} {ch : List Sy} : ∀ {ms dn : List Sy} {acc : List En}, Mid w q1 q2 i ch dn ms acc → msAt q1 q2 i = dn ++ ms →
    match proc w q1 q2 ch (dues q1 q2 (PP q1 q2 ch) ms) acc with
    | .error c => Told w q1 q2 c
    | .ok acc' => (∃ more, acc' = acc ++ more) ∧ Mid w q1 q2 i ch (dn ++ ms) [] acc'
  | [], dn, acc, h, _ => by
    refine ⟨⟨[], by simp⟩, ?_⟩
    rw [List.append_nil]
    exact h
  | m :: ms, dn, acc, h, hall => by
    have ea : aft q1 q2 (PP q1 q2 ch) m = PP q1 q2 (ch ++ [m]) := (PP_snoc ..).symm
    show (match proc w q1 q2 ch ((m, aft q1 q2 (PP q1 q2 ch) m) :: dues q1 q2 (PP q1 q2 ch) ms) acc with
      | .error c => Told w q1 q2 c
      | .ok acc' => (∃ more, acc' = acc ++ more) ∧ Mid w q1 q2 i ch (dn ++ m :: ms) [] acc')
    rw [ea]
    have e2 : dn ++ m :: ms = (dn ++ [m]) ++ ms := by simp
    have n2 := num_snoc ch m
    have i2 := m.ix_pos
    unfold proc
    rw [agree_parts]
    cases hp : parts w q1 q2 (ch ++ [m]) with
    | true =>
      show Told w q1 q2 (ch ++ [m])
      exact h.told hall hp
    | false =>
      show (match (if m ≠ Sy.hash ∧ PP q1 q2 (ch ++ [m]) ∉ acc.map (·.1) then proc w q1 q2 ch (dues q1 q2 (PP q1 q2 ch) ms) (acc ++ [(PP q1 q2 (ch ++ [m]), ch ++ [m])]) else proc w q1 q2 ch (dues q1 q2 (PP q1 q2 ch) ms) acc) with
        | .error c => Told w q1 q2 c
        | .ok acc' => (∃ more, acc' = acc ++ more) ∧ Mid w q1 q2 i ch (dn ++ m :: ms) [] acc')
      have tail : ms.Pairwise fun a b => a.ix < b.ix := (List.pairwise_cons.mp h.rs).2
      have hd1 := (List.pairwise_cons.mp h.rs).1
      have mm' : ∀ x ∈ ms, x ∈ mems q1 q2 := fun x hx => h.mm x (List.mem_cons_of_mem _ hx)
      rw [e2]
      by_cases hc : m ≠ Sy.hash ∧ PP q1 q2 (ch ++ [m]) ∉ acc.map (·.1)
      · rw [if_pos hc]
        have h' : Mid w q1 q2 i ch (dn ++ [m]) ms (acc ++ [(PP q1 q2 (ch ++ [m]), ch ++ [m])]) := by
          refine ⟨fun e he => ?_, ?_, fun e he => ?_, ?_, ?_, h.cm, fun e he => ?_, fun e he x hx => ?_, fun j hj x hx => ?_, fun x hx => ?_, tail, mm'⟩
          · rcases List.mem_append.mp he with he | he
            · exact h.ent e he
            · simp only [List.mem_singleton] at he
              subst he
              refine ⟨rfl, fun s hs => ?_⟩
              rcases List.mem_append.mp hs with hs | hs
              · exact h.cm s hs
              · simp only [List.mem_singleton] at hs
                subst hs
                exact ⟨h.mm _ List.mem_cons_self, hc.1⟩
          · rw [List.map_append, List.pairwise_append]
            refine ⟨h.ris, List.pairwise_singleton _ _, fun x hx y hy => ?_⟩
            obtain ⟨e, he, rfl⟩ := List.mem_map.mp hx
            simp only [List.map_cons, List.map_nil, List.mem_singleton] at hy
            subst hy
            rw [n2]
            exact h.lt e he m List.mem_cons_self
          · rcases List.mem_append.mp he with he | he
            · exact h.pos e he
            · simp only [List.mem_singleton] at he
              subst he
              show 0 < num (ch ++ [m])
              omega
          · rw [List.length_append]
            exact Nat.le_add_right_of_le h.le
          · rw [node_app h.le]
            exact h.nd
          · rcases List.mem_append.mp he with he | he
            · exact h.old e he
            · simp only [List.mem_singleton] at he
              subst he
              show num (ch ++ [m]) ≤ _
              omega
          · rcases List.mem_append.mp he with he | he
            · exact h.lt e he x (List.mem_cons_of_mem _ hx)
            · simp only [List.mem_singleton] at he
              subst he
              show num (ch ++ [m]) < _
              have := hd1 x hx
              omega
          · have := h.le
            rw [node_app (by omega)]
            exact (h.seen j hj x hx).more
          · rcases List.mem_append.mp hx with hx | hx
            · exact (h.now x hx).more
            · simp only [List.mem_singleton] at hx
              subst hx
              exact ⟨hp, fun _ => ⟨_, List.mem_append_right _ (List.mem_singleton.mpr rfl), rfl, Nat.le_refl _⟩⟩
        have r := proc_mid h' (by rw [hall]; simp)
        revert r
        generalize proc w q1 q2 ch (dues q1 q2 (PP q1 q2 ch) ms) (acc ++ [(PP q1 q2 (ch ++ [m]), ch ++ [m])]) = R
        intro r
        cases R with
        | error c => exact r
        | ok acc' =>
          obtain ⟨⟨more, e⟩, r2⟩ := r
          exact ⟨⟨_, by rw [e, List.append_assoc]⟩, r2⟩
      · rw [if_neg hc]
        refine proc_mid ⟨h.ent, h.ris, h.pos, h.le, h.nd, h.cm, h.old, fun e he x hx => h.lt e he x (List.mem_cons_of_mem _ hx), h.seen, fun x hx => ?_, tail, mm'⟩ (by rw [hall]; simp)
        rcases List.mem_append.mp hx with hx | hx
        · exact h.now x hx
        · simp only [List.mem_singleton] at hx
          subst hx
          refine ⟨hp, fun hm => ?_⟩
          have hin : PP q1 q2 (ch ++ [x]) ∈ acc.map (·.1) := Classical.byContradiction fun z => hc ⟨hm, z⟩
          obtain ⟨e, he, ee⟩ := List.mem_map.mp hin
          refine ⟨e, he, ee, ?_⟩
          have := h.lt e he x List.mem_cons_self
          omega
theorem dueAt_dues {w : Bool} {q1 q2 : Qn} {i : Nat} {acc : List En} (h : Bfs w q1 q2 i acc) : dueAt q1 q2 acc i = dues q1 q2 (PP q1 q2 (node acc i)) (msAt q1 q2 i) := by
  cases i with
  | zero =>
    show ((mems q1 q2).map fun m => (m, aft q1 q2 ([0], [0]) m)).filter (fun x => !decide (x.1 = Sy.hash)) = ((mems q1 q2).filter fun m => !decide (m = Sy.hash)).map fun m => (m, aft q1 q2 ([0], [0]) m)
    rw [List.filter_map]
    rfl
  | succ i =>
    have hi : i < acc.length := h.le
    have hi? : acc[i]? = some acc[i] := List.getElem?_eq_getElem hi
    show (match acc[i]? with | some e => due q1 q2 e.1 | none => []) = _
    rw [node_succ hi?, hi?]
    show due q1 q2 acc[i].1 = dues q1 q2 (PP q1 q2 acc[i].2) (mems q1 q2)
    rw [(h.ent _ (List.getElem_mem hi)).pp]
    rfl
theorem Bfs.mid {w : Bool} {q1 q2 : Qn} {i : Nat} {acc : List En} (h : Bfs w q1 q2 i acc) : Mid w q1 q2 i (node acc i) [] (msAt q1 q2 i) acc := by
  refine ⟨h.ent, h.ris, h.pos, h.le, rfl, ?_, fun e he => ?_, fun e he m hm => ?_, h.seen, fun _ z => (nomatch z), msAt_sorted .., fun _ => msAt_sub⟩
  · cases i with
    | zero => exact fun s hs => (nomatch hs)
    | succ i =>
      have hi : i < acc.length := h.le
      have hi? : acc[i]? = some acc[i] := List.getElem?_eq_getElem hi
      rw [node_succ hi?]
      exact (h.ent _ (List.getElem_mem hi)).mem
  · have := h.old e he
    omega
  · have := h.old e he
    have := m.ix_pos
    omega
/-- what is found where nothing parts -/
structure Paper (w : Bool) (q1 q2 : Qn) (acc : List En) : Prop where
  ent : ∀ e ∈ acc, Ent q1 q2 e
  seen : ∀ j, j ≤ acc.length → ∀ m ∈ msAt q1 q2 j, Seen w q1 q2 acc (node acc j) m
theorem go_spec {w : Bool} {q1 q2 : Qn} : ∀ {n i : Nat} {acc : List En} {r : Except (List Sy) (List En)}, Bfs w q1 q2 i acc → go w q1 q2 n i acc = some r →
    match r with
    | .error c => Told w q1 q2 c
    | .ok acc' => Paper w q1 q2 acc'
  | 0, _, _, _, _, h => by cases h
  | n + 1, i, acc, r, b, h => by
    unfold go at h
    have p := proc_mid b.mid (by simp)
    rw [dueAt_dues b] at h
    have e0 : chAt acc i = node acc i := rfl
    rw [e0] at h
    revert h p
    generalize proc w q1 q2 (node acc i) (dues q1 q2 (PP q1 q2 (node acc i)) (msAt q1 q2 i)) acc = R
    intro h p
    cases R with
    | error c =>
      have e : some (Except.error c) = some r := h
      cases e
      exact p
    | ok acc' =>
      obtain ⟨⟨more, e⟩, M⟩ := p
      rw [List.nil_append] at M
      have h : (if acc'.length ≤ i then some (Except.ok acc') else go w q1 q2 n (i + 1) acc') = some r := h
      by_cases hc : acc'.length ≤ i
      · rw [if_pos hc] at h
        cases h
        refine ⟨M.ent, fun j hj m hm => ?_⟩
        have hl := M.le
        rcases Nat.lt_or_ge j i with k | k
        · exact M.seen j k m hm
        · have : j = i := by omega
          subst this
          rw [M.nd]
          exact M.now m hm
      · rw [if_neg hc] at h
        refine go_spec ⟨M.ent, M.ris, M.pos, by omega, fun x hx => ?_, fun j hj m hm => ?_⟩ h
        · have a1 := M.old x hx
          rw [← M.nd] at a1
          have hi : i < acc'.length := by omega
          have hi? : acc'[i]? = some acc'[i] := List.getElem?_eq_getElem hi
          rw [node_succ hi?]
          have lt : num (node acc' i) < num acc'[i].2 := by
            cases i with
            | zero => exact M.pos _ (List.getElem_mem hi)
            | succ k =>
              have hk : k < acc'.length := by omega
              have hk? : acc'[k]? = some acc'[k] := List.getElem?_eq_getElem hk
              rw [node_succ hk?]
              have := List.pairwise_iff_getElem.mp M.ris k (k + 1) (by simpa using hk) (by simpa using hi) (by omega)
              simpa only [List.getElem_map] using this
          omega
        · rcases Nat.lt_or_ge j i with k | k
          · exact M.seen j k m hm
          · have : j = i := by omega
            subst this
            rw [M.nd]
            exact M.now m hm
/-- a paper: no chain parts -/
theorem Paper.reach {w : Bool} {q1 q2 : Qn} {acc : List En} (h : Paper w q1 q2 acc) : ∀ (n : Nat) (y : List Sy), y.length = n → (∀ s ∈ y, s ∈ mems q1 q2 ∧ s ≠ Sy.hash) → ∃ j, j ≤ acc.length ∧ PP q1 q2 (node acc j) = PP q1 q2 y ∧ (y ≠ [] → 1 ≤ j) := by
  intro n
  induction n with
  | zero =>
    intro y hy _
    have e : y = [] := List.length_eq_zero_iff.mp hy
    subst e
    exact ⟨0, Nat.zero_le _, rfl, fun h => absurd rfl h⟩
  | succ n ih =>
    intro y hy hm
    rcases List.eq_nil_or_concat y with e | ⟨y0, m0, e⟩
    · subst e
      simp at hy
    · rw [List.concat_eq_append] at e
      subst e
      have hy0 : y0.length = n := by
        rw [List.length_append, List.length_singleton] at hy
        omega
      obtain ⟨hm0, hh0⟩ := hm m0 (by simp)
      obtain ⟨j, hj, h2, _⟩ := ih y0 hy0 (fun s hs => hm s (List.mem_append_left _ hs))
      obtain ⟨_, hs⟩ := h.seen j hj m0 (msAt_of hm0 hh0)
      obtain ⟨e, he, h3, _⟩ := hs hh0
      obtain ⟨k, hk, ek⟩ := List.mem_iff_getElem.mp he
      have hk? : acc[k]? = some e := by rw [List.getElem?_eq_getElem hk, ek]
      have nk : node acc (k + 1) = e.2 := node_succ hk?
      refine ⟨k + 1, hk, ?_, fun _ => by omega⟩
      rw [nk, ← (h.ent e he).pp, h3, PP_snoc, PP_snoc, h2]
theorem Paper.none {w : Bool} {q1 q2 : Qn} {acc : List En} (h : Paper w q1 q2 acc) {y : List Sy} {m : Sy} (hy : ∀ s ∈ y, s ∈ mems q1 q2 ∧ s ≠ Sy.hash) (hm : m ∈ mems q1 q2) (hne : y ≠ [] ∨ m ≠ .hash) : parts w q1 q2 (y ++ [m]) = false := by
  obtain ⟨j, hj, h2, h3⟩ := h.reach y.length y rfl hy
  have xm : m ∈ msAt q1 q2 j := by
    cases j with
    | succ j => exact hm
    | zero =>
      refine msAt_of hm fun e => ?_
      subst e
      rcases hne with hne | hne
      · have := h3 hne
        omega
      · exact hne rfl
  have p := (h.seen j hj m xm).1
  have e : PP q1 q2 (node acc j ++ [m]) = PP q1 q2 (y ++ [m]) := by rw [PP_snoc, PP_snoc, h2]
  have a1 := agree_parts w q1 q2 (node acc j ++ [m])
  have a2 := agree_parts w q1 q2 (y ++ [m])
  rw [e, a2, p] at a1
  cases q : parts w q1 q2 (y ++ [m]) with
  | false => rfl
  | true => rw [q] at a1; cases a1
/-- the paper is accepted -/
def okDue (w : Bool) (q1 q2 : Qn) (ps : List Pr) (x : Sy × Pr) : Bool := agree w q1 q2 x.2 && (decide (x.1 = Sy.hash) || decide (x.2 ∈ ps))
theorem Seen.ok {w : Bool} {q1 q2 : Qn} {acc : List En} {ch : List Sy} {m : Sy} (h : Seen w q1 q2 acc ch m) : okDue w q1 q2 (acc.map (·.1)) (m, aft q1 q2 (PP q1 q2 ch) m) = true := by
  unfold okDue
  dsimp only
  rw [← PP_snoc, agree_parts, h.1]
  by_cases hm : m = Sy.hash
  · rw [decide_eq_true hm]
    rfl
  · obtain ⟨e, he, h3, _⟩ := h.2 hm
    have : PP q1 q2 (ch ++ [m]) ∈ acc.map (·.1) := List.mem_map.mpr ⟨e, he, h3⟩
    rw [decide_eq_true this, Bool.or_true]
    rfl
theorem Paper.ok {w : Bool} {q1 q2 : Qn} {acc : List En} (h : Paper w q1 q2 acc) : ∀ x ∈ begun q1 q2 ++ (acc.map (·.1)).flatMap (due q1 q2), okDue w q1 q2 (acc.map (·.1)) x = true := fun x hx => by
  rcases List.mem_append.mp hx with hx | hx
  · obtain ⟨h1, h2⟩ := List.mem_filter.mp hx
    obtain ⟨m, hm, rfl⟩ := List.mem_map.mp h1
    have hne : m ≠ Sy.hash := by simpa using h2
    exact (h.seen 0 (Nat.zero_le _) m (msAt_of hm hne)).ok
  · obtain ⟨p, hp, hx⟩ := List.mem_flatMap.mp hx
    obtain ⟨e, he, rfl⟩ := List.mem_map.mp hp
    obtain ⟨m, hm, rfl⟩ := List.mem_map.mp hx
    obtain ⟨k, hk, ek⟩ := List.mem_iff_getElem.mp he
    have hk? : acc[k]? = some e := by rw [List.getElem?_eq_getElem hk, ek]
    have s := (h.seen (k + 1) hk m hm).ok
    rw [node_succ hk?, ← (h.ent e he).pp] at s
    exact s

/-! ### the order of chains, as the law asks for it -/
def lexGt : List Sy → List Sy → Bool
  | [], _ => false
  | _ :: _, [] => true
  | a :: c, b :: d => if a = b then lexGt c d else decide (b.ix < a.ix)
def pyGt (c x : List Sy) : Bool := if c.length = x.length then lexGt c x else decide (x.length < c.length)
theorem num_from : ∀ (c : List Sy) (n : Nat), c.foldl (fun n s => 6 * n + s.ix) n = n * 6 ^ c.length + num c
  | [], n => by simp [num]
  | s :: c, n => by
    unfold num
    rw [List.foldl_cons, List.foldl_cons, num_from c, num_from c, List.length_cons, Nat.pow_succ, Nat.add_mul, Nat.add_mul]
    have : 6 * n * 6 ^ c.length = n * (6 ^ c.length * 6) := by rw [Nat.mul_comm 6 n, Nat.mul_assoc, Nat.mul_comm 6]
    rw [this]
    simp
    omega
theorem num_cons (s : Sy) (c : List Sy) : num (s :: c) = s.ix * 6 ^ c.length + num c := by
  have := num_from c s.ix
  unfold num at this ⊢
  rw [List.foldl_cons]
  simpa using this
theorem num_bd : ∀ c : List Sy, num c + 1 ≤ 6 ^ c.length ∧ 6 ^ c.length ≤ 5 * num c + 1
  | [] => by decide
  | s :: c => by
    obtain ⟨h1, h2⟩ := num_bd c
    have hs := s.ix_pos
    rw [num_cons, List.length_cons, Nat.pow_succ]
    generalize 6 ^ c.length = P at *
    have a1 : s.ix * P ≤ 5 * P := Nat.mul_le_mul_right _ hs.2
    have a2 : 1 * P ≤ s.ix * P := Nat.mul_le_mul_right _ hs.1
    generalize s.ix * P = R at *
    omega
theorem lexGt_num : ∀ {c x : List Sy}, c.length = x.length → lexGt c x = true → num x < num c
  | [], _, _, h => by simp [lexGt] at h
  | a :: c, [], hl, _ => by simp at hl
  | a :: c, b :: d, hl, h => by
    have hl' : c.length = d.length := by simpa using hl
    unfold lexGt at h
    rw [num_cons, num_cons, hl']
    split at h
    · rename_i e
      subst e
      have := lexGt_num hl' h
      omega
    · have lt : b.ix < a.ix := by simpa using h
      have hd := (num_bd d).1
      have : (b.ix + 1) * 6 ^ d.length ≤ a.ix * 6 ^ d.length := Nat.mul_le_mul_right _ lt
      rw [Nat.succ_mul] at this
      omega
theorem pyGt_num {c x : List Sy} (h : pyGt c x = true) : num x < num c := by
  unfold pyGt at h
  split at h
  · rename_i e
    exact lexGt_num e h
  · have lt : x.length < c.length := by simpa using h
    have h1 := (num_bd c).2
    have h2 := (num_bd x).1
    have h3 : 6 ^ (x.length + 1) ≤ 6 ^ c.length := Nat.pow_le_pow_right (by decide) lt
    rw [Nat.pow_succ] at h3
    omega
/-- the least: none of the law's own chains is before it -/
theorem Told.notGt {w : Bool} {q1 q2 : Qn} {c : List Sy} (h : Told w q1 q2 c) {y : List Sy} {m : Sy} (hy : ∀ s ∈ y, s ∈ mems q1 q2 ∧ s ≠ Sy.hash) (hm : m ∈ mems q1 q2) (hne : y ≠ [] ∨ m ≠ .hash) (hp : T45.parts w q1 q2 (y ++ [m]) = true) : pyGt c (y ++ [m]) = false := by
  have := h.least y m hy hm hne hp
  cases q : pyGt c (y ++ [m]) with
  | false => rfl
  | true =>
    have := pyGt_num q
    omega

/-! ### a question and itself; within any names -/
theorem Told.self {q : Qn} {c : List Sy} (h : Told false q q c) : False := by
  have := h.parts
  unfold T45.parts at this
  simp at this
def wide : Qn := [(true, Sy.star)]
theorem places_cons_ne {q : Qn} {c : List Sy} (h : c ≠ []) : ∃ y m, c = y ++ [m] := by
  rcases List.eq_nil_or_concat c with e | ⟨y, m, e⟩
  · exact absurd e h
  · exact ⟨y, m, by rw [e, List.concat_eq_append]⟩
theorem wide_zero : ∀ (n : Nat) (c : List Sy), c.length = n → 0 ∈ places wide c := by
  intro n
  induction n with
  | zero =>
    intro c hc
    have e : c = [] := List.length_eq_zero_iff.mp hc
    subst e
    exact List.mem_singleton.mpr rfl
  | succ n ih =>
    intro c hc
    rcases List.eq_nil_or_concat c with e | ⟨y, m, e⟩
    · subst e
      simp at hc
    · rw [List.concat_eq_append] at e
      subst e
      rw [places_snoc, mem_next]
      have := ih y (by rw [List.length_append, List.length_singleton] at hc; omega)
      unfold hit
      rw [decide_eq_true this]
      rfl
theorem Told.wide {q : Qn} {c : List Sy} (h : Told true q wide c) (hq : ∀ s ∈ q, s.2 ≠ Sy.hash) (h0 : q ≠ []) : False := by
  obtain ⟨ch, m, rfl, hc, hm⟩ := h.cut
  have hp := h.parts
  unfold T45.parts takes at hp
  simp only [if_true, Bool.and_eq_true, decide_eq_true_eq, Bool.not_eq_true', decide_eq_false_iff_not] at hp
  obtain ⟨p1, p2⟩ := hp
  have z := wide_zero ch.length ch rfl
  have hmh : m = Sy.hash := by
    refine Classical.byContradiction fun hne => p2 ?_
    rw [places_snoc, mem_next]
    have : passAt T45.wide m 0 = true := by
      show passes Sy.star m = true
      unfold passes
      rw [decide_eq_false hne]
      simp
    show ((decide (1 ∈ places T45.wide ch) && below T45.wide 1) || (decide (0 ∈ places T45.wide ch) && passAt T45.wide m 0)) = true
    rw [decide_eq_true z, this]
    simp
  subst hmh
  rw [places_snoc, mem_next] at p1
  obtain ⟨j, hl⟩ : ∃ j, q.length = j + 1 := ⟨q.length - 1, by
    have : q.length ≠ 0 := fun e => h0 (List.length_eq_zero_iff.mp e)
    omega⟩
  rw [hl] at p1
  have p1 : ((decide (j + 1 ∈ places q ch) && below q (j + 1)) || (decide (j ∈ places q ch) && passAt q Sy.hash j)) = true := p1
  rw [Bool.or_eq_true, Bool.and_eq_true, Bool.and_eq_true] at p1
  rcases p1 with p1 | p1
  · have := below_lt p1.2
    omega
  · have p3 := p1.2
    have hj : q[j]? = some q[j] := List.getElem?_eq_getElem (by omega)
    unfold passAt at p3
    rw [hj] at p3
    have p3 : passes q[j].2 Sy.hash = true := p3
    unfold passes at p3
    have := hq q[j] (List.getElem_mem _)
    simp [this] at p3
/-- sizes, for the walk -/
structure Sz (q1 q2 : Qn) (acc : List En) : Prop where
  few : Few q1 q2 acc
  len : ∀ e ∈ acc, e.2.length ≤ acc.length + 1
theorem sz_nil (q1 q2 : Qn) : Sz q1 q2 [] := ⟨few_nil .., fun _ h => (nomatch h)⟩
theorem Sz.ch {q1 q2 : Qn} {acc : List En} (h : Sz q1 q2 acc) (i : Nat) : (chAt acc i).length ≤ acc.length + 1 := by
  cases i with
  | zero => exact Nat.zero_le _
  | succ i =>
    show (match acc[i]? with | some e => e.2 | none => []).length ≤ acc.length + 1
    cases e : acc[i]? with
    | none => exact Nat.zero_le _
    | some en => exact h.len en (List.mem_of_getElem? e)
theorem Sz.snoc {q1 q2 : Qn} {acc : List En} {a : Pr} {ch : List Sy} {m : Sy} (h : Sz q1 q2 acc) (hn : a ∉ acc.map (·.1)) (ha : a ∈ allPr q1 q2) (hc : ch.length ≤ acc.length + 1) : Sz q1 q2 (acc ++ [(a, ch ++ [m])]) := by
  refine ⟨h.few.snoc hn ha, fun e he => ?_⟩
  rw [List.length_append, List.length_singleton]
  rcases List.mem_append.mp he with he | he
  · have := h.len e he
    omega
  · simp only [List.mem_singleton] at he
    subst he
    rw [List.length_append, List.length_singleton]
    omega
end T45

/-! Sets of texts whose members are known as a list: made by a comprehension, sorted. -/
namespace T45
open PySem PySem.Spec PyProof.Rows L2

/-- an entry that is a text -/
def TxE (w : World) (e : Int × Value) : Prop := ∃ x tk, e = (hashStr w x, Value.str x tk)
abbrev tx (e : Int × Value) : Str := strOf e.2
theorem TxE.is {P : Program} {w : World} {e : Int × Value} (h : TxE w e) (k : Str) : (strKind P w).is k e.2 = true ↔ tx e = k := by
  obtain ⟨x, tk, rfl⟩ := h
  constructor
  · intro q
    obtain ⟨u, eu⟩ := Value.isStrOf_shape (show Value.isStrOf k (Value.str x tk) = true from q)
    injection eu
  · intro q
    have q : x = k := q
    subst q
    exact strKind_is P w x tk
theorem TxE.elems {P : Program} {w : World} {l : List (Int × Value)} (h : ∀ e ∈ l, TxE w e) : ElemsOf (strKind P w) l := fun e he => by
  obtain ⟨x, tk, rfl⟩ := h e he
  exact ⟨⟨x, strKind_is P w x tk, rfl⟩, rfl⟩
/-- where the texts of the set at a stand: L without its order -/
structure TxTab (w : World) (o : Obj) (L : List Str) (es : Array (Int × Value)) (t : SetTable) : Prop where
  ex : o.ExactSet
  els : ∀ e ∈ es.toList, TxE w e
  pm : (es.toList.map tx).Perm L
  nd : L.Nodup
  few : L.length < scanBound
  fit : t.fits es.size = true
  ris : Ris t.place.toList
  led : w.params.followText "set-order" = true ∨ t.led = true
def TxSet (w : World) (h : Heap) (a : Addr) (L : List Str) : Prop := ∃ o es ep t, h.get? a = some o ∧ o.data = .set es ep t ∧ TxTab w o L es t
section
variable {P : Program} {w : World} {A : Around} {E : Value → Shared → Prop} {s : Shared} {h h' : Heap} {a : Addr} {L : List Str}
theorem TxSet.keep (r : TxSet w h a L) (k : ∀ o, h.get? a = some o → h'.get? a = some o) : TxSet w h' a L := by
  obtain ⟨o, es, ep, t, e, q⟩ := r
  exact ⟨o, es, ep, t, k o e, q⟩
theorem TxTab.size {o : Obj} {es : Array (Int × Value)} {t : SetTable} (T : TxTab w o L es t) : es.size = L.length := by
  have := T.pm.length_eq
  rw [List.length_map, Array.length_toList] at this
  exact this
theorem TxTab.few' {o : Obj} {es : Array (Int × Value)} {t : SetTable} (T : TxTab w o L es t) : es.size < scanBound := by
  rw [T.size]
  exact T.few
theorem TxSet.fresh (h : Heap) : TxSet w (h.push { cls := .type "set", dict := none, data := .set #[] 0 (.fresh 0 0 (!w.params.followText "set-order")) }) h.objs.size [] := by
  refine ⟨_, _, _, _, Heap.get?_push_size _ rfl, rfl, ⟨rfl, rfl, rfl⟩, fun e he => ?_, .nil, .nil, by decide, by rfl, .nil, ?_⟩
  · simp at he
  · cases q : w.params.followText "set-order" with
    | true => exact .inl rfl
    | false => exact .inr (by rfl)

/-! ### one more text -/
/-- what a store leaves -/
theorem stored {o : Obj} {es es' : Array (Int × Value)} {ep : Nat} {t t' : SetTable} (e : h.get? a = some o) (d : o.data = .set es ep t) :
    ∃ o' ep', (h.update a (Obj.putSet es' t')).get? a = some o' ∧ o'.data = .set es' ep' t' ∧ (o.ExactSet → o'.ExactSet) := by
  have q := Heap.get?_update_self (Obj.putSet es' t') e (by rw [putSet_of es' t' d]; rfl)
  rw [putSet_of es' t' d] at q
  exact ⟨_, _, q, rfl, id⟩
theorem TxTab.with {o o' : Obj} {es es' : Array (Int × Value)} {t t' : SetTable} {L' : List Str} (T : TxTab w o L es t) (hx : o.ExactSet → o'.ExactSet) (he : ∀ e ∈ es'.toList, TxE w e) (hp : (es'.toList.map tx).Perm L') (hn : L'.Nodup) (hf : L'.length < scanBound)
    (f : t'.fits es'.size = true) (r : Ris t'.place.toList) (l : t'.led = t.led) : TxTab w o' L' es' t' :=
  ⟨hx T.ex, he, hp, hn, hf, f, r, T.led.imp id fun z => l.trans z⟩
/-- laid, and relaid where it is too full -/
theorem lay_ok {o : Obj} {es0 es : Array (Int × Value)} {ep : Nat} {t0 t : SetTable} {b : Bool} {L' : List Str} {Q : Option Bool → Shared → Prop} {note : Bool → Sem Unit} (free : ∀ (b : Bool) (s' : Shared) (R : Unit → Shared → Prop), R () s' → wpAny (model P w) A (note b) R E s') (e : s.heap.get? a = some o) (d : o.data = .set es0 ep t0) (T : TxTab w o L' es t)
    (hQ : ∀ h', Heap.SameBut a s.heap h' → TxSet w h' a L' → Q (some true) { s with heap := h' }) :
    wpAny (model P w) A (do
      storeSet a es t
      if (!b && t.tooFull) = true then
        note (relayAll t es (SetTable.grown es.size)).2.2
        storeSet a (relayAll t es (SetTable.grown es.size)).1 (relayAll t es (SetTable.grown es.size)).2.1
        pure (some true)
      else pure (some true)) Q E s := by
  have room := fits_of_scanBound T.few'
  refine wpAny_bind (wpAny_storeSet_of e d ?_ room)
  obtain ⟨o1, ep1, e1, d1, x1⟩ := stored (es' := es) (t' := t) e d
  have same := Heap.SameBut.update s.heap a (Obj.putSet es t)
  have T1 : TxTab w o1 L' es t := T.with x1 T.els T.pm T.nd T.few T.fit T.ris rfl
  split
  · have pm := relayAll_perm t es (SetTable.grown es.size)
    have ft := relayAll_fits t es (SetTable.grown es.size)
    have rs := relayAll_ris t es (SetTable.grown es.size)
    have ld := relayAll_led t es (SetTable.grown es.size)
    revert pm ft rs ld
    generalize relayAll t es (SetTable.grown es.size) = Z
    rcases Z with ⟨es2, t2, gv⟩
    intro pm ft rs ld
    have pm : es2.toList.Perm es.toList := pm
    have len : es2.size = es.size := by rw [← Array.length_toList, pm.length_eq, Array.length_toList]
    refine wpAny_bind (free _ _ _ ?_)
    refine wpAny_bind (wpAny_storeSet_of e1 d1 ?_ (by rw [len]; exact room))
    obtain ⟨o2, ep2, e2, d2, x2⟩ := stored (es' := es2) (t' := t2) e1 d1
    exact wpAny_pure (hQ _ (same.trans (Heap.SameBut.update _ a _)) ⟨o2, es2, ep2, t2, e2, d2, T1.with x2 (fun z hz => T.els z (pm.mem_iff.mp hz)) ((pm.map tx).trans T.pm) T.nd T.few ft rs ld⟩)
  · exact wpAny_pure (hQ _ same ⟨o1, es, ep1, t, e1, d1, T1⟩)
theorem add_hashed {x : Str} {tk : Tok} {Q : Bool → Shared → Prop} (r : TxSet w s.heap a L) (room : L.length + 1 < scanBound)
    (hQ : ∀ b h', Heap.SameBut a s.heap h' → TxSet w h' a (if x ∈ L then L else x :: L) → Q b { s with heap := h' }) : wpAny (model P w) A (setAddHashed a (.str x tk) (hashStr w x)) Q E s := by
  obtain ⟨o, es, ep, t, e, d, T⟩ := id r
  have key := strKind_is P w x tk
  have hel : ElemsOf (strKind P w) es.toList := TxE.elems T.els
  have mem : ∀ k, k ∈ L ↔ ∃ z ∈ es.toList, (strKind P w).is k z.2 = true := fun k => by
    rw [← T.pm.mem_iff, List.mem_map]
    exact ⟨fun ⟨z, hz, q⟩ => ⟨z, hz, ((T.els z hz).is k).mpr q⟩, fun ⟨z, hz, q⟩ => ⟨z, hz, ((T.els z hz).is k).mp q⟩⟩
  unfold setAddHashed setAddHashedIn
  refine wpAny_holding (wpAny_bind (wpAny_setState_of e d T.fit ?_))
  dsimp only
  rw [byScan_of (by rfl) T.few' hel]
  simp only [↓reduceIte]
  unfold setAddByScan
  refine wpAny_bind (wpAny_bind (wpAny_rule (wpAny_bind (wpAny_setScan_of key e d T.fit hel ?_))))
  cases fi : es.toList.findIdx? (fun z => (strKind P w).is x z.2) with
  | some j =>
    obtain ⟨hj, pj, _⟩ := List.findIdx?_eq_some_iff_getElem.mp fi
    have inL : x ∈ L := (mem x).mpr ⟨_, List.getElem_mem hj, pj⟩
    refine wpAny_pure (wpAny_pure ?_)
    have q := hQ false s.heap (Heap.SameBut.refl a s.heap)
    rw [if_pos inL] at q
    exact q r
  | none =>
    have out : x ∉ L := fun z => by
      obtain ⟨y, hy, q⟩ := (mem x).mp z
      rw [List.findIdx?_eq_none_iff.mp fi y hy] at q
      cases q
    have pm := layNew_perm t es (hashStr w x) (.str x tk)
    have ft := layNew_fits t es (hashStr w x) (.str x tk)
    have rs := layNew_ris t es (hashStr w x) (.str x tk) T.ris
    have ld := layNew_led t es (hashStr w x) (.str x tk)
    dsimp only
    generalize layNew t es (hashStr w x) (.str x tk) = Z at pm ft rs ld ⊢
    obtain ⟨es1, t1, dm, gv⟩ := Z
    dsimp only at pm ft rs ld ⊢
    have pm : es1.toList.Perm ((hashStr w x, Value.str x tk) :: es.toList) := by
      have q : es1.toList.Perm (es.push (hashStr w x, Value.str x tk)).toList := pm
      rw [Array.toList_push] at q
      exact q.trans (List.perm_append_singleton _ _)
    have fin : ∀ h', Heap.SameBut a s.heap h' → TxSet w h' a (x :: L) → Q true { s with heap := h' } := fun h' sb z => by
      have q := hQ true h' sb
      rw [if_neg out] at q
      exact q z
    have els : ∀ z ∈ es1.toList, TxE w z := fun z hz => by
      rcases List.mem_cons.mp (pm.mem_iff.mp hz) with q | q
      · exact ⟨x, tk, q⟩
      · exact T.els z q
    have T1 : ∀ t2 : SetTable, t2.fits es1.size = true → t2.place = t1.place → t2.led = t1.led → TxTab w o (x :: L) es1 t2 := fun t2 f p l => ⟨T.ex, els, (pm.map tx).trans (.cons x T.pm), List.nodup_cons.mpr ⟨out, T.nd⟩, room, f, by rw [p]; exact rs,
      T.led.imp id fun z => (l.trans ld).trans z⟩
    have free : ∀ (b : Bool) (s' : Shared) (R : Unit → Shared → Prop), R () s' → wpAny (model P w) A (match b with | true => rule "set.scan.the-table-gave-way" | false => pure ()) R E s' := fun b s' R q => by
      cases b with
      | true => exact wpAny_rule q
      | false => exact wpAny_pure q
    refine wpAny_bind (free _ _ _ ?_)
    split
    · refine wpAny_bind ?_
      rw [hashByValue_scannable 8 (show (Value.str x tk).scannable = true from rfl)]
      refine wpAny_pure ?_
      refine lay_ok (note := fun b => match b with | true => rule "set.scan.the-table-gave-way" | false => pure ()) free e d (T1 _ ?_ ?_ ?_) fun h' sb z => wpAny_pure (fin h' sb z)
      · split
        · exact ft
        · exact SetTable.fits_plain_off ft
      · split <;> rfl
      · split <;> rfl
    · refine wpAny_bind (wpAny_pure ?_)
      exact lay_ok (note := fun b => match b with | true => rule "set.scan.the-table-gave-way" | false => pure ()) free e d (T1 t1 ft rfl rfl) fun h' sb z => wpAny_pure (fin h' sb z)
theorem add_text {x : Str} {tk : Tok} {Q : Value → Shared → Prop} (r : TxSet w s.heap a L) (room : L.length + 1 < scanBound)
    (hQ : ∀ h', Heap.SameBut a s.heap h' → TxSet w h' a (if x ∈ L then L else x :: L) → Q .none { s with heap := h', toks := s.toks + 1 }) : wpAny (model P w) A (call (.builtin "set.add") [.ref a, .str x tk]) Q E s := by
  obtain ⟨o, es, ep, t, e, d, T⟩ := id r
  refine wpAny_call_entry F.slot_set_add ⟨o, e, T.ex.1⟩ F.entry_set_add ?_ (F.args_set_add_2 _ _)
  unfold Builtin.«set.add» Builtin.Frozenset.oneOther
  simp only [List.isEmpty_nil, bind_assoc]
  unfold Builtin.Frozenset.addrOf setAdd
  refine wpAny_bind (wpAny_pure ?_)
  try dsimp only
  refine wpAny_bind (wpAny_pure ?_)
  try dsimp only
  refine wpAny_bind (wpAny_holding (wpAny_bind (wpAny_pyHash_str ?_)))
  refine add_hashed (s := { s with toks := s.toks + 1 }) r room fun b h' sb z => ?_
  show wpAny _ _ (ret Value.none) _ _ _
  exact wpAny_pure ⟨_, rfl, hQ h' sb z⟩

/-! ### sorted -/
theorem sorted_texts {Q : Value → Shared → Prop} (r : TxSet w s.heap a L) (hh : A.handled = none) (h64 : L.length < 64)
    (hQ : ∀ s' p (out : Array Value) (c : Nat) (ys : List Str), (∀ b o, s.heap.get? b = some o → s'.heap.get? b = some o) → s'.gens = s.gens → s'.os = s.os → s.heap.objs.size ≤ p →
      s'.heap.get? p = some (seqObj "list" out c) → StrsAre out.toList ys → ys.Perm L → PyProof.Rows.sortedS ys = true → Q (.ref p) s') : wpAny (model P w) A (call (.builtin "sorted") [.ref a]) Q E s := by
  obtain ⟨o, es, ep, t, e, d, T⟩ := r
  refine Calls.call_function_entry kind_sorted plain_sorted entry_sorted (args_sorted1 _) ?_
  unfold Builtin.«sorted»
  refine wpAny_bind (m := checkCount "sorted" 1 1 _) (wpAny_pure ?_)
  refine wpAny_bind (collect_set (A := A.in1) hh ⟨o, e, T.ex.1, d⟩ T.fit T.few' T.ris T.led fun s1 vs k1 hz g1 o1 pm => ?_)
  have len : vs.length = L.length := by rw [pm.length_eq, List.length_map, Array.length_toList, T.size]
  have S : StrsAre vs (vs.map strOf) := strsAre_map vs fun v hv => by
    obtain ⟨z, hz, rfl⟩ := List.mem_map.mp (pm.mem_iff.mp hv)
    obtain ⟨x, tk, rfl⟩ := T.els z hz
    exact ⟨x, tk, rfl⟩
  have pL : (vs.map strOf).Perm L := by
    have q := pm.map strOf
    rw [List.map_map] at q
    exact q.trans T.pm
  refine wpAny_bind (wpAny_newList ?_ (by rw [len, sizeLine_eq]; omega))
  have hoL : (s1.heap.push (seqObj "list" vs.toArray 0)).get? s1.heap.objs.size = some (seqObj "list" vs.toArray 0) := Heap.get?_push_size _ rfl
  refine wpAny_bind (wpAny_holding (wpAny_call_entry slot_list_sort ⟨_, hoL, rfl⟩ entry_list_sort (list_sort_treeK strKind_oneLt hoL S.keysOf (fun v1 v2 rest q => keyKind_strs (by rw [← q]; exact S)) (by omega) fun st' hp hs => ⟨_, rfl, ?_⟩) (args_list_sort _)))
  obtain ⟨ys, y1, y2, y3⟩ := sorted_out_str S hp hs
  obtain ⟨c, hc⟩ := sortedHeap_at (vs := vs) (out := (arrOf st').map (·.2)) hoL
  refine wpAny_pure ⟨_, rfl, hQ _ s1.heap.objs.size _ c ys (fun b u q => ?_) g1 o1 hz hc y1 (y2.trans pL) y3⟩
  have q1 := k1 b u q
  have lt := Heap.lt_size q1
  show (sortedHeap (s1.heap.push (seqObj "list" vs.toArray 0)) s1.heap.objs.size vs ((arrOf st').map (·.2))).get? b = some u
  rw [sortedHeap_old (Nat.ne_of_lt lt) (by rw [size_push']; exact Nat.lt_succ_of_lt lt)]
  exact Heap.get?_push_of_some _ q1
end

/-! ### as tracked things -/
def TxO (w : World) (a : Addr) (L : List Str) : HO := .ext fun h => TxSet w h a L
section
variable {X : Cx} {pins : List (Addr × Obj)} {σ : L2.St} {H : Hp} {s : Shared} {a : Addr} {L : List Str}
theorem txo_ok {P : Program} {w : World} {h : Heap} (r : TxSet w h a L) : ObjOk P w H h a (TxO w a L) := by
  have ⟨o, _, _, _, e, _⟩ := r
  exact ⟨r, ⟨o, e⟩, fun _ _ p k => p.keep k⟩
theorem txo_at (I : Inv X pins σ H s) (h : H a = some (TxO X.w a L)) : TxSet X.w s.heap a L := (I.hok a _ h).1
theorem addT_ok {E : Value → Shared → Prop} {y : Str} {v : Value} {Q : Value → Shared → Prop} (I : Inv X pins σ H s) (h : H a = some (TxO X.w a L)) (room : L.length + 1 < scanBound) (ry : RelV (.str y) v)
    (k : ∀ s', Inv X pins σ (upd H a (TxO X.w a (if y ∈ L then L else y :: L))) s' → Q .none s') : wpAny (model X.prog X.w) X.A (call (.builtin "set.add") [.ref a, v]) Q E s := by
  obtain ⟨tk, rfl⟩ := ry
  refine add_text (txo_at I h) room fun h' sb z => ?_
  have ⟨o, _, _, _, e, _⟩ := z
  exact k _ (I.write (e := a) (t' := s.toks + 1) (by rw [h]; trivial) (.inl rfl) (fun b u hb hu => (sb.2 b hb).trans hu) ⟨o, e⟩ (txo_ok z))
/-- sorted(found) -/
def rSortTx (w : World) : List V → Hp → VK → Prop := fun vs H Q => ∃ a L, vs = [V.ref a] ∧ H a = some (TxO w a L) ∧ L.length < 64 ∧ ∀ (ys : List Str) p, ys.Perm L → PyProof.Rows.sortedS ys = true → H p = none → Q (.ref p) (upd H p (.lst (ys.map V.str)))
theorem cr_sortTx (hc : X.calm = true) : CallR X (.builtin "sorted") (rSortTx X.w) := by
  intro pins s σ H vs us Q I r h
  obtain ⟨a, L, rfl, ha, h64, q⟩ := h
  rw [Vals.ref1 r]
  refine sorted_texts (txo_at I ha) (I.ok.hd hc) h64 fun s' p out c ys k g o hp hg hi pm so => ?_
  have len : (ys.map V.str).length ≤ sizeLine := by rw [List.length_map, pm.length_eq, sizeLine_eq]; omega
  have np : H p = none := I.hok.fresh hp
  have un : Un (frs X.stack) [] H (upd H p (.lst (ys.map V.str))) s.heap s'.heap := Un.laid k hp np
  have J : Inv X pins σ (upd H p (.lst (ys.map V.str))) s' := I.call' o un (I.hok.laid k hp ⟨len, out.toList, c, vals_of_strs hi, hg⟩) (by rw [g]; exact I.bare) fun _ z => nomatch z
  exact ⟨.ref p, _, J, rfl, q ys p pm so np⟩
end

/-! ### the comprehension: texts gathered -/
section
variable {X : Cx}
/-- {elt for target in iter if ..}, elt a text; D the new set, W by the turn and a measure -/
def tScT (w : World) (wi : TI) (g : TG) (tt : TT) (te : TE) (vs : List Nat) : TE := fun σ H Q => wi σ H fun J H1 => ∀ D, H1 D = none → ∃ W : Nat → Nat → Hp → Prop, (∃ m, W 0 m (upd H1 D (TxO w D []))) ∧ ∀ i m H, W i m H →
  (J.stop i H ∧ Q (.ref D) H) ∨ (J.go i H ∧ ∃ Nx : Hp → Prop, (∀ H', Nx H' → ∃ m', m' < m ∧ W (i + 1) m' H') ∧ ∀ x H', J.yld i H x H' → g x (wipe σ vs) H' fun σ2 H2 => wipe σ2 vs = wipe σ vs ∧ tt σ2 H2 fun b H3 =>
    if b = true then te σ2 H3 fun y H4 => ∃ c L, y = V.str c ∧ H4 D = some (TxO w D L) ∧ L.length + 1 < scanBound ∧ Nx (upd H4 D (TxO w D (if c ∈ L then L else c :: L))) else Nx H3)
set_option maxHeartbeats 8000000 in
theorem pe_scT {elt tg iter : Expr} {ifs : List Expr} {scope : Scope} {own : List (PySem.Str × Nat)} {pos : Pos} {wi : TI} {g : TG} {tt : TT} {te : TE} (hc : X.calm = true) (hN : X.N.Nodup) (hi : PI X tg iter wi) (ok : BlkOk X.N X.env.scope scope own)
    (hg : ∀ (s : Shared) (H : Hp) (C : Addr) (cl : List (PySem.Str × Addr)) (fp : List Addr), PG (X.blk s H scope (compEnvC scope cl C X.env) fp) tg g) (ht : ∀ (s : Shared) (H : Hp) (C : Addr) (cl : List (PySem.Str × Addr)) (fp : List Addr), PTs (X.blk s H scope (compEnvC scope cl C X.env) fp) ifs tt)
    (he : ∀ (s : Shared) (H : Hp) (C : Addr) (cl : List (PySem.Str × Addr)) (fp : List Addr), PE (X.blk s H scope (compEnvC scope cl C X.env) fp) elt te) (hs : ∀ x, foldedSetIterable iter X.env x = pure x := by intro _; rfl) :
    PE X (.SetComp elt [⟨tg, iter, ifs, 0⟩] scope pos) (tScT X.w wi g tt te (own.map (·.2))) := by
  refine ⟨fun pins s σ H Q I h => ?_⟩
  rw [PpSet.eval_SetComp]
  have caught : ∀ y ∈ scope.names, y.2 = .free → ∃ c, X.env.cells.lookup y.1 = some c := fun y hy e => I.ok.has _ (ok.free y hy e)
  refine wpAny_comprehension_free (use := none) rfl hs (closure_ok caught) ok.kind (fun y hy e => by rw [ok.uniq y hy, e]) (thn (hi.run pins s σ H _ I h) fun xv s1 hx => thn hx fun itv s2 ⟨it, fp, tn, J, H2, e, I2, TU, st2, f2, q⟩ => ?_)
  subst e
  refine PpSet.newSet_ok (newEnv_comp ?_)
  obtain ⟨W, ⟨m0, w0⟩, turn⟩ := q s2.heap.objs.size (I2.hok.fresh (Nat.le_refl _))
  -- the set is laid
  have I3 : Inv X pins σ (upd H2 s2.heap.objs.size (TxO X.w s2.heap.objs.size [])) { s2 with heap := s2.heap.push { cls := .type "set", dict := none, data := .set #[] 0 (.fresh 0 0 (!X.w.params.followText "set-order")) } } :=
    I2.laid (t' := s2.toks) (fun b o z => Heap.get?_push_of_some _ z) (Nat.le_refl _) (txo_ok (TxSet.fresh s2.heap))
  have old : ∀ b ∈ fp, b < s2.heap.objs.size := fun b hb => by
    obtain ⟨o, z, _⟩ := TU.obj _ _ st2 b hb
    exact Heap.lt_size z
  have st3 : tn 0 (s2.heap.push { cls := .type "set", dict := none, data := .set #[] 0 (.fresh 0 0 (!X.w.params.followText "set-order")) }) := TU.keep _ _ _ st2 fun b _ o z => Heap.get?_push_of_some _ z
  have sz3 : (s2.heap.push { cls := .type "set", dict := none, data := .set #[] 0 (.fresh 0 0 (!X.w.params.followText "set-order")) }).objs.size = s2.heap.objs.size + 1 := Heap.size_push ..
  have nofp : ∀ b ∈ fp, (upd H2 s2.heap.objs.size (TxO X.w s2.heap.objs.size [])) b = none := fun b hb => by
    rw [upd_ne (Nat.ne_of_lt (old b hb))]
    exact (f2 b hb).1
  generalize hs3 : ({ s2 with heap := s2.heap.push { cls := .type "set", dict := none, data := .set #[] 0 (.fresh 0 0 (!X.w.params.followText "set-order")) } } : Shared) = s3 at I3 ⊢
  have h3 : s3.heap = s2.heap.push { cls := .type "set", dict := none, data := .set #[] 0 (.fresh 0 0 (!X.w.params.followText "set-order")) } := by rw [← hs3]
  rw [← h3] at st3 sz3
  generalize upd H2 s2.heap.objs.size (TxO X.w s2.heap.objs.size []) = H3 at I3 nofp w0
  have f3 : ∀ b ∈ fp, FpOk X pins H3 b ∧ b < s3.heap.objs.size := fun b hb => ⟨⟨nofp b hb, (f2 b hb).2⟩, by rw [sz3]; exact Nat.lt_succ_of_lt (old b hb)⟩
  have I4 := block_start I3 ok hN f3
  have pg := hg s3 H3 s3.heap.objs.size (cellsFrom (s3.heap.objs.size + 1) scope.names (cloFrom X.env.cells scope.names [])) fp
  have pt := ht s3 H3 s3.heap.objs.size (cellsFrom (s3.heap.objs.size + 1) scope.names (cloFrom X.env.cells scope.names [])) fp
  have pe := he s3 H3 s3.heap.objs.size (cellsFrom (s3.heap.objs.size + 1) scope.names (cloFrom X.env.cells scope.names [])) fp
  show codeAny _ _ (.compStart (.SetComp elt [⟨tg, iter, ifs, 0⟩] scope pos) 0 (.ref it) (.ref s2.heap.objs.size) (compEnvC scope (cellsFrom (s3.heap.objs.size + 1) scope.names (cloFrom X.env.cells scope.names [])) s3.heap.objs.size X.env)) _ { s3 with heap := pushCells (s3.heap.push { cls := .type "dict", data := .dict #[] }) scope.names }
  generalize hce : compEnvC scope (cellsFrom (s3.heap.objs.size + 1) scope.names (cloFrom X.env.cells scope.names [])) s3.heap.objs.size X.env = ce at I4 pg pt pe ⊢
  have cL : ce.locals = s3.heap.objs.size := by rw [← hce]; rfl
  have st4 : tn 0 (pushCells (s3.heap.push { cls := .type "dict", data := .dict #[] }) scope.names) := TU.keep _ _ _ st3 fun b _ o z => pushCells_keeps _ _ _ _ (Heap.get?_push_of_some _ z)
  -- in the block: the iterator's objects as they are
  have stay : ∀ {σ' : L2.St} {H' : Hp} {s' : Shared}, Inv (X.blk s3 H3 scope ce fp) [] σ' H' s' → (∀ b ∈ fp, H' b = none) → ∀ b ∈ fp, FpOk (X.blk s3 H3 scope ce fp) [] H' b := fun {σ' H' s'} I' n b hb =>
    ⟨n b hb, (I'.ok.exf b hb).1, I'.ok.exfs b hb, .inl hb, fun x c z => (I'.ok.exf b hb).2 x c z, fun p hp => by simp at hp⟩
  have loop : codeAny (model X.prog X.w) X.A (.compLoop (.SetComp elt [⟨tg, iter, ifs, 0⟩] scope pos) 0 (.ref it) (.ref s2.heap.objs.size) ce) (compPost (model X.prog X.w) X.A X.xe none (EP X pins σ Q) (.ref s2.heap.objs.size) s3.heap.objs.size)
      { s3 with heap := pushCells (s3.heap.push { cls := .type "dict", data := .dict #[] }) scope.names } := by
    refine PpSet.compLoopS_any (fun n s' => ∃ i H', Inv (X.blk s3 H3 scope ce fp) [] (wipe σ (own.map (·.2))) H' s' ∧ tn i s'.heap ∧ (∀ b ∈ fp, H' b = none) ∧ W i n H') ?_ m0 ⟨0, H3, I4, st4, nofp, w0⟩
    rintro n s5 ⟨i, H5, I5, st5, n5, w5⟩
    rcases turn i n H5 w5 with ⟨stop, fin⟩ | ⟨go, Nx, again, step⟩
    · refine thnF (TU.done (X.blk s3 H3 scope ce fp) rfl rfl rfl hc i [] s5 _ H5 (fun _ _ => False) I5 (stay I5 n5) st5 stop) fun r s6 ⟨hr, I6⟩ => ?_
      subst hr
      have I7 : Inv X pins σ H5 s6 := I3.call' (ch := fp) I6.os I6.base I6.hok I6.bare fun b hb => ⟨(f3 b hb).1.2.2.2.1, (f3 b hb).1.2.1, (f3 b hb).1.2.2.2.2.1, (f3 b hb).1.2.2.2.2.2⟩
      have nC : H5 s3.heap.objs.size = none := by rw [← cL]; exact I6.free
      obtain ⟨m, hm, _⟩ := I6.loc
      have hm : s6.heap.Ns s3.heap.objs.size m := by rw [← cL]; exact hm
      obtain ⟨g0, g1, g2, g3, g4, g5⟩ := I3.fpOk (b := s3.heap.objs.size) (Nat.le_refl _) nC
      exact ⟨m, hm, fun h'' sb => ⟨.ref s2.heap.objs.size, H5, I7.turned (t' := s6.toks) (fun b o hb z => (sb.2 b hb).trans z) g0 g1 g3 g4 g5, rfl, fin⟩⟩
    · refine thnF (TU.item (X.blk s3 H3 scope ce fp) rfl rfl rfl hc i [] s5 _ H5 (fun _ _ => False) I5 (stay I5 n5) st5 go) fun r s6 ⟨u, hr, h6⟩ => ?_
      subst hr
      refine thnF h6 fun _ s7 ⟨x, H7, I7, r7, y7, st7, n7⟩ => ?_
      have P7 := I7.pinned (stay I7 n7) (TU.obj _ _ st7)
      refine thnF (pg.run _ s7 _ H7 x u _ P7 r7 (step x H7 y7)) fun _ s8 ⟨σ8, H8, I8, hw, q8⟩ => ?_
      refine thnF (pt.run _ s8 σ8 H8 _ I8 q8) fun b s9 ⟨H9, I9, q9⟩ => ?_
      have back : ∀ {s' : Shared} {H' : Hp}, Inv (X.blk s3 H3 scope ce fp) ([] ++ pinsAt fp s7.heap) σ8 H' s' → Nx H' → ∃ m, m < n ∧ ∃ i H', Inv (X.blk s3 H3 scope ce fp) [] (wipe σ (own.map (·.2))) H' s' ∧ tn i s'.heap ∧ (∀ b ∈ fp, H' b = none) ∧ W i m H' := fun {s' H'} I' nx => by
        obtain ⟨m', hm, w'⟩ := again H' nx
        have pinned : ∀ b ∈ fp, ∀ o, s7.heap.get? b = some o → s'.heap.get? b = some o ∧ H' b = none := fun b hb o z =>
          have zz := I'.pin (b, o) (List.mem_append_right _ (List.mem_append_right _ (mem_pinsAt hb z)))
          ⟨zz.1, zz.2.1⟩
        have len : (wipe σ (own.map (·.2))).length = σ8.length := by rw [← hw, wipe_length]
        refine ⟨m', hm, i + 1, H', (I'.unpinned (pins := [])).weak len (fun j v z => ?_), TU.keep _ _ _ st7 fun b hb o z => (pinned b hb o z).1, fun b hb => ?_, w'⟩
        · rw [← hw] at z
          exact (wipe_some z).1
        · obtain ⟨o, z, _⟩ := TU.obj _ _ st7 b hb
          exact (pinned b hb o z).2
      cases b with
      | false => exact back I9 q9
      | true =>
        refine thnF (pe.run _ s9 σ8 H9 _ I9 q9) fun z s10 ⟨y, H10, I10, r10, c, L, ey, hD, room, nx⟩ => ?_
        subst ey
        exact addT_ok (X := X.blk s3 H3 scope ce fp) I10 hD room r10 fun s11 I11 => back I11 nx
  exact PpSet.codeAny_compStart_set loop (TU.self X.A 0 _ _ _ st4 loop)
/-- over a list of data that the block leaves as it is -/
theorem sc_list {w : World} {K : PySem.W.Frag} {a : Addr} {xs : List V} {g : TG} {tt : TT} {te : TE} {vs : List Nat} {σ : L2.St} {H1 : Hp} {D : Addr} {Qd : Hp → Prop} (Pv : Nat → Hp → Prop) (h0 : Pv 0 (upd H1 D (TxO w D []))) (hl : ∀ i H, i ≤ xs.length → Pv i H → SqL K H a xs)
    (hs : ∀ i x H, xs[i]? = some x → Pv i H → g x (wipe σ vs) H fun σ2 H2 => wipe σ2 vs = wipe σ vs ∧ tt σ2 H2 fun b H3 =>
      if b = true then te σ2 H3 fun y H4 => ∃ c L, y = V.str c ∧ H4 D = some (TxO w D L) ∧ L.length + 1 < scanBound ∧ Pv (i + 1) (upd H4 D (TxO w D (if c ∈ L then L else c :: L))) else Pv (i + 1) H3) (hd : ∀ H, Pv xs.length H → Qd H) :
    ∃ W : Nat → Nat → Hp → Prop, (∃ m, W 0 m (upd H1 D (TxO w D []))) ∧ ∀ i m H, W i m H →
      ((Itl K a).stop i H ∧ Qd H) ∨ ((Itl K a).go i H ∧ ∃ Nx : Hp → Prop, (∀ H', Nx H' → ∃ m', m' < m ∧ W (i + 1) m' H') ∧ ∀ x H', (Itl K a).yld i H x H' → g x (wipe σ vs) H' fun σ2 H2 => wipe σ2 vs = wipe σ vs ∧ tt σ2 H2 fun b H3 =>
        if b = true then te σ2 H3 fun y H4 => ∃ c L, y = V.str c ∧ H4 D = some (TxO w D L) ∧ L.length + 1 < scanBound ∧ Nx (upd H4 D (TxO w D (if c ∈ L then L else c :: L))) else Nx H3) := by
  refine ⟨fun i m H => i + m = xs.length ∧ Pv i H, ⟨xs.length, Nat.zero_add _, h0⟩, fun i m H ⟨hm, p⟩ => ?_⟩
  have q := hl i H (by omega) p
  cases m with
  | zero =>
    have e : i = xs.length := by omega
    subst e
    exact .inl ⟨⟨xs, q, Nat.le_refl _⟩, hd H p⟩
  | succ m =>
    have lt : i < xs.length := by omega
    refine .inr ⟨⟨xs, xs[i], q, List.getElem?_eq_getElem lt⟩, Pv (i + 1), fun H' p' => ⟨m, Nat.lt_succ_self _, by omega, p'⟩, fun x H' ⟨e, y⟩ => ?_⟩
    subst e
    exact hs i x _ (y xs q) p
end
end T45

/-! How the mirror's things stand as data. -/
namespace T45
open PySem PySem.Spec PyProof.Rows L2

def Sy.s : Sy → Str
  | .hash => "#" | .star => "*" | .la => "a" | .lb => "b" | .lc => "c"
def Sy.cp : Sy → Nat
  | .hash => 35 | .star => 42 | .la => 97 | .lb => 98 | .lc => 99
theorem Sy.cps (s : Sy) : s.s.cps.toList = [s.cp] := by cases s <;> decide +kernel
theorem Sy.cp_ix {s t : Sy} : s.cp < t.cp ↔ s.ix < t.ix := by cases s <;> cases t <;> decide
theorem Sy.s_inj {s t : Sy} (h : s.s = t.s) : s = t := by
  have e : s.s.cps.toList = t.s.cps.toList := by rw [h]
  rw [Sy.cps, Sy.cps] at e
  injection e with e
  cases s <;> cases t <;> first | rfl | (exact absurd e (by decide))
theorem Sy.s_eq {s t : Sy} : (s.s = t.s) = (s = t) := propext ⟨Sy.s_inj, congrArg _⟩
theorem Sy.ok (s : Sy) : PyData.strOk s.s = true := by cases s <;> decide +kernel
theorem Sy.len (s : Sy) : s.s.length = 1 := by cases s <;> decide +kernel
def axS : Bool → Str
  | true => "below" | false => "child"
theorem ax_ok (b : Bool) : PyData.strOk (axS b) = true := by cases b <;> decide +kernel
theorem ax_below (b : Bool) : decide (axS b = ("below" : Str)) = b := by cases b <;> decide +kernel

abbrev natsV (ps : List Nat) : List Int := ps.map fun (n : Nat) => (n : Int)
def natsD (ps : List Nat) : PyData := .list ((natsV ps).map PyData.int)
def pairD (p : Pr) : PyData := .tuple [natsD p.1, natsD p.2]
def chainD (c : List Sy) : PyData := .list ((c.map Sy.s).map PyData.str)
def dueD (x : Sy × Pr) : PyData := .tuple [.str x.1.s, pairD x.2]
def duesD (xs : List (Sy × Pr)) : PyData := .list (xs.map dueD)
def pairsD (ps : List Pr) : PyData := .list (ps.map pairD)
def chainsD (cs : List (List Sy)) : PyData := .list (cs.map chainD)
def stepD (s : Bool × Sy) : PyData := .tuple [.str (axS s.1), .str s.2.s, .list []]
def quesD (q : Qn) : PyData := .list (q.map stepD)

/-! ### equal data -/
theorem eqv_str (x y : Str) : PyData.eqv (.str x) (.str y) = decide (x = y) := by
  simp only [PyData.eqv]
  by_cases h : x = y
  · subst h; simp
  · simp [h]
theorem eqv_int (x y : Int) : PyData.eqv (.int x) (.int y) = decide (x = y) := by
  simp only [PyData.eqv]
  by_cases h : x = y
  · subst h; simp
  · simp [h]
theorem eqvAll_map {α : Type} [DecidableEq α] (f : α → PyData) (h : ∀ a b, PyData.eqv (f a) (f b) = decide (a = b)) : ∀ xs ys : List α, PyData.eqvAll (xs.map f) (ys.map f) = decide (xs = ys)
  | [], [] => by simp [PyData.eqvAll]
  | [], _ :: _ => by simp [PyData.eqvAll]
  | _ :: _, [] => by simp [PyData.eqvAll]
  | x :: xs, y :: ys => by
    rw [List.map_cons, List.map_cons]
    simp only [PyData.eqvAll]
    rw [h, eqvAll_map f h xs ys]
    by_cases e : x = y
    · subst e
      by_cases e2 : xs = ys
      · subst e2; simp
      · simp [e2]
    · simp [e]
theorem eqv_list {α : Type} [DecidableEq α] (f : α → PyData) (h : ∀ a b, PyData.eqv (f a) (f b) = decide (a = b)) (xs ys : List α) : PyData.eqv (.list (xs.map f)) (.list (ys.map f)) = decide (xs = ys) := by
  simp only [PyData.eqv]
  exact eqvAll_map f h xs ys
theorem eqv_nats (a b : List Nat) : PyData.eqv (natsD a) (natsD b) = decide (a = b) := by
  unfold natsD natsV
  rw [List.map_map, List.map_map]
  refine eqv_list _ (fun x y => ?_) a b
  show PyData.eqv (.int (x : Int)) (.int (y : Int)) = _
  rw [eqv_int]
  by_cases h : x = y
  · subst h; simp
  · have : ¬ (x : Int) = y := by omega
    simp [h, this]
theorem eqv_tup2 (a b c d : PyData) : PyData.eqv (.tuple [a, b]) (.tuple [c, d]) = (PyData.eqv a c && PyData.eqv b d) := by simp [PyData.eqv, PyData.eqvAll]
theorem eqv_pair (a b : Pr) : PyData.eqv (pairD a) (pairD b) = decide (a = b) := by
  unfold pairD
  rw [eqv_tup2, eqv_nats, eqv_nats]
  obtain ⟨a1, a2⟩ := a
  obtain ⟨b1, b2⟩ := b
  by_cases h : a1 = b1
  · subst h
    by_cases h2 : a2 = b2
    · subst h2; simp
    · simp [h2]
  · simp [h]
theorem eqv_pairs (a b : List Pr) : PyData.eqv (pairsD a) (pairsD b) = decide (a = b) := eqv_list _ eqv_pair a b
theorem eqv_chain (a b : List Sy) : PyData.eqv (chainD a) (chainD b) = decide (a = b) := by
  unfold chainD
  rw [List.map_map, List.map_map]
  refine eqv_list _ (fun x y => ?_) a b
  show PyData.eqv (.str x.s) (.str y.s) = _
  rw [eqv_str]
  simp only [Sy.s_eq]
theorem any_pair (ps : List Pr) (a : Pr) : ((ps.map pairD).any fun z => PyData.eqv z (pairD a)) = decide (a ∈ ps) := by
  induction ps with
  | nil => simp
  | cons p r ih =>
    rw [List.map_cons, List.any_cons, ih, eqv_pair]
    by_cases h : p = a
    · subst h; simp
    · have h' : ¬ a = p := fun z => h z.symm
      simp [h, h']

/-! ### sizes -/
structure Fit (n : Nat) (d : PyData) : Prop where
  lay : d.canLay0 = true
  dp : d.depth ≤ n
theorem Fit.shaped {n : Nat} {d : PyData} (h : Fit n d) (hn : n ≤ 64) : SeqAt.shaped d = true := by
  show (d.canLay0 && decide (d.depth ≤ 64)) = true
  rw [Bool.and_eq_true]
  exact ⟨h.lay, decide_eq_true (Nat.le_trans h.dp hn)⟩
theorem Fit.mono {n m : Nat} {d : PyData} (h : Fit n d) (hn : n ≤ m) : Fit m d := ⟨h.lay, Nat.le_trans h.dp hn⟩
theorem fit_int (i : Int) : Fit 0 (.int i) := ⟨by simp [PyData.canLay0], by simp [PyData.depth]⟩
theorem fit_non : Fit 0 .none := ⟨by simp [PyData.canLay0], by simp [PyData.depth]⟩
theorem fit_str {x : Str} (h : PyData.strOk x = true) : Fit 0 (.str x) := ⟨by simpa [PyData.canLay0] using h, by simp [PyData.depth]⟩
theorem fit_all {n : Nat} : ∀ {ds : List PyData}, (∀ d ∈ ds, Fit n d) → PyData.canLayAll0 ds = true ∧ PyData.depthAll ds ≤ n
  | [], _ => ⟨by simp [PyData.canLayAll0], by simp [PyData.depthAll]⟩
  | d :: ds, h => by
    obtain ⟨h1, h2⟩ := fit_all (ds := ds) fun x hx => h x (List.mem_cons_of_mem _ hx)
    have h0 := h d List.mem_cons_self
    refine ⟨by simp [PyData.canLayAll0, h0.lay, h1], ?_⟩
    simp only [PyData.depthAll]
    have := h0.dp
    omega
theorem fit_list {n : Nat} {ds : List PyData} (h : ∀ d ∈ ds, Fit n d) : Fit (n + 1) (.list ds) := by
  obtain ⟨h1, h2⟩ := fit_all h
  exact ⟨by simp [PyData.canLay0, h1], by simp only [PyData.depth]; omega⟩
theorem fit_tup {n : Nat} {ds : List PyData} (h : ∀ d ∈ ds, Fit n d) : Fit (n + 1) (.tuple ds) := by
  obtain ⟨h1, h2⟩ := fit_all h
  exact ⟨by simp [PyData.canLay0, h1], by simp only [PyData.depth]; omega⟩
theorem fit_map {α : Type} {n : Nat} {f : α → PyData} {xs : List α} (h : ∀ a, Fit n (f a)) : ∀ d ∈ xs.map f, Fit n d := fun d hd => by
  obtain ⟨a, _, rfl⟩ := List.mem_map.mp hd
  exact h a
theorem fit_nats (ps : List Nat) : Fit 1 (natsD ps) := fit_list (fit_map fit_int)
theorem fit_pair (p : Pr) : Fit 2 (pairD p) := fit_tup fun d hd => by
  rcases List.mem_cons.mp hd with e | hd
  · subst e; exact fit_nats _
  · rcases List.mem_cons.mp hd with e | hd
    · subst e; exact fit_nats _
    · cases hd
theorem fit_pairs (ps : List Pr) : Fit 3 (pairsD ps) := fit_list (fit_map fit_pair)
theorem fit_chain (c : List Sy) : Fit 1 (chainD c) := fit_list fun d hd => by
  obtain ⟨x, hx, rfl⟩ := List.mem_map.mp hd
  obtain ⟨s, _, rfl⟩ := List.mem_map.mp hx
  exact fit_str s.ok
/-! ### items of encoded things -/
theorem quesD_get {q : Qn} {i : Nat} {s : Bool × Sy} (h : q[i]? = some s) : (q.map stepD)[i]? = some (stepD s) := by rw [List.getElem?_map, h]; rfl
theorem map_inj_list {α : Type} {f : α → PyData} {xs : List α} {i : Nat} {d : PyData} (h : (xs.map f)[i]? = some d) : ∃ a, xs[i]? = some a ∧ d = f a := by
  rw [List.getElem?_map] at h
  cases e : xs[i]? with
  | none => rw [e] at h; cases h
  | some a =>
    rw [e] at h
    exact ⟨a, rfl, (Option.some.inj h).symm⟩
theorem mem_nats {n : Nat} {ps : List Nat} : decide ((n : Int) ∈ natsV ps) = decide (n ∈ ps) := by
  have e : ((n : Int) ∈ natsV ps) = (n ∈ ps) := propext ⟨fun h => by
    obtain ⟨m, hm, em⟩ := List.mem_map.mp h
    have : m = n := by omega
    subst this
    exact hm, fun h => List.mem_map.mpr ⟨n, h, rfl⟩⟩
  simp only [e]
end T45

/-! The text by places; what of it each def leans on; calls of defs and methods that keep their promise. -/
namespace T45
open PySem PySem.Spec PyProof.Rows L2

def top (i : Nat) : Stmt := PySem.Challenge.pw_topiary_k45_whole_alike_or_a_chain_apart.main.body.getD i (.Pass ⟨0, 0, 0, 0⟩)

/-- built-in names that the text leaves as they are, its constants -/
structure Tx (mg : Str → Option Value) : Prop where
  mlen : mg "len" = none
  mall : mg "all" = none
  many : mg "any" = none
  msorted : mg "sorted" = none
  mint : mg "int" = none
  mlist : mg "list" = none
  mrange : mg "range" = none
  menumerate : mg "enumerate" = none
  mset : mg "set" = none
  mTEXT : ∃ t, mg "TEXT" = some (.str "#" t)
  mLETTERS : ∃ t, mg "LETTERS" = some (.str "abcdefghijklmnopqrstuvwxyz" t)
  mMOST_STEPS : ∃ t, mg "MOST_STEPS" = some (.int 12 t)
  mMOST_DEPTH : ∃ t, mg "MOST_DEPTH" = some (.int 3 t)

section
variable {X : Cx} {x : Str} {pos p apos : Pos} {e o : Expr} {es : List Expr} {t : TA} {ta : TE} {k : Nat} {ps : List Str} {sp : Sp}
theorem pe_gS {s : Str} (hg : Gl X x) (hm : ∃ t, X.mg x = some (.str s t)) (hd : (x == ("__debug__" : Str)) = false := by decide) : PE X (.Name x pos) (tC (.str s)) := by
  obtain ⟨t, hm⟩ := hm
  exact pe_glob hg hm ⟨_, rfl⟩ hd
theorem pe_gI {i : Int} (hg : Gl X x) (hm : ∃ t, X.mg x = some (.int i t)) (hd : (x == ("__debug__" : Str)) = false := by decide) : PE X (.Name x pos) (tC (.int i)) := by
  obtain ⟨t, hm⟩ := hm
  exact pe_glob hg hm ⟨_, rfl⟩ hd
/-- code of an expression that the proof never comes to -/
def tNo : TE := fun _ _ _ => False
theorem pe_no : PE X e tNo := ⟨fun _ _ _ _ _ _ h => h.elim⟩
def tNoT : TT := fun _ _ _ => False
theorem pt_no : PT X e tNoT := ⟨fun _ _ _ _ _ _ h => h.elim⟩
end

/-! ### rules that name K, for blocks -/
section
variable {X : Cx} {K : PySem.W.Frag}
theorem cr_lenK (h : X.K = K) : CallR X (.builtin "len") (rLenL K) := by
  subst h
  exact call_len_seq
theorem cr_listK (h : X.K = K) : CallR X (.type "list") (rListL K) := by
  subst h
  exact call_list_of
theorem op_inK (h : X.K = K) : OpR X (compareOp .In) (rIn K false) := by
  subst h
  exact op_in_seq
theorem op_niK (h : X.K = K) : OpR X (compareOp .NotIn) (rIn K true) := by
  subst h
  exact op_notIn_seq
theorem ix_tupK (h : X.K = K) : IxR X (rIxT K) := by
  subst h
  exact ix_tup
theorem ix_listK (h : X.K = K) : IxR X (rIxL K) := by
  subst h
  exact ix_list
theorem op_inDK (h : X.K = K) (hu : X.A.units + 65 < cLine) : OpR X (compareOp .In) (rInD K) := by
  subst h
  exact op_inD hu
theorem op_niDK (h : X.K = K) (hu : X.A.units + 65 < cLine) : OpR X (compareOp .NotIn) (rNotInD K) := by
  subst h
  exact op_notInD hu
theorem pg_tupK {es : List Expr} {k n : Nat} {t : TGs} {pos : Pos} (h : X.K = K) (hc : X.calm = true) (hp : PGs X es t) (hn : (assignEach es X.env).length = n := by rfl) (hst : (assignEach es X.env).findIdx? (·.1) = none := by rfl) : PG X (.Tuple es k pos) (gTup K n t) := by
  subst h
  exact pg_tup hc hp hn hst
theorem op_neDK (h : X.K = K) (hu : X.A.units + 64 < cLine) : OpR X (compareOp .NotEq) (rNeD K) := by
  subst h
  exact op_neD hu
end

/-! ### defs -/
/-- the def x stands behind the top as st -/
structure Fd (K : PySem.W.Frag) (mg : Str → Option Value) (x : Str) (st : Stmt) (ps : List Str) (f : Addr) (fd : FuncData) : Prop where
  F : Fun K x x st f fd
  m : mg x = some (.ref f)
  b : Binds K fd ps []
/-- the def x keeps its promise, at level k -/
def Df (P : Program) (w : World) (K : PySem.W.Frag) (mg : Str → Option Value) (base : Heap) (x : Str) (k : Nat) (ps : List Str) (sp : Sp) : Prop :=
  ∃ f fd, FnOk P w K mg base CX0 k f fd ps sp ∧ mg x = some (.ref f) ∧ PySem.W.keepIn K (.ref f) = true ∧ Binds K fd ps []
/-- the method m of the class at C -/
structure Fm (K : PySem.W.Frag) (C : Addr) (x qual : Str) (st : Stmt) (ps : List Str) (f : Addr) (fd : FuncData) : Prop where
  F : Fun K x qual st f fd
  m : Meth K C x f
  b : Binds K fd ps []
def Dm (P : Program) (w : World) (K : PySem.W.Frag) (mg : Str → Option Value) (base : Heap) (C : Addr) (x : Str) (k : Nat) (ps : List Str) (sp : Sp) : Prop :=
  ∃ f fd, FnOk P w K mg base CX0 k f fd ps sp ∧ Meth K C x f ∧ Binds K fd ps []
section
variable {P : Program} {w : World} {K : PySem.W.Frag} {mg : Str → Option Value} {base : Heap} {C f : Addr} {fd : FuncData}
theorem Fd.df {x : Str} {st : Stmt} {ps : List Str} {k : Nat} {sp : Sp} (D : Fd K mg x st ps f fd) (h : FnOk P w K mg base CX0 k f fd ps sp) : Df P w K mg base x k ps sp := ⟨f, fd, h, D.m, D.F.kp, D.b⟩
theorem Fm.dm {x qual : Str} {st : Stmt} {ps : List Str} {k : Nat} {sp : Sp} (D : Fm K C x qual st ps f fd) (h : FnOk P w K mg base CX0 k f fd ps sp) : Dm P w K mg base C x k ps sp := ⟨f, fd, h, D.m, D.b⟩
end
section
variable {X : Cx} {x m : Str} {pos p apos : Pos} {e o : Expr} {es : List Expr} {t : TA} {ta : TE} {k : Nat} {ps : List Str} {sp : Sp} {C : Addr}
theorem pe_df (D : Df X.prog X.w X.K X.mg X.base x k ps sp) (hr : Room k X.A) (hg : Gl X x) (ha : PA X (e :: es) t) (hdb : (x == ("__debug__" : Str)) = false := by decide)
    (he : starEach (e :: es) X.env = (false, eval e X.env) :: starEach es X.env := by rfl) (hpl : (backTo pos (starEach es X.env)).any (·.1) = false := by rfl) : PE X (.Call (.Name x p) (e :: es) [] pos) (tCall sp [] E0 t) := by
  obtain ⟨f, fd, G, m, kp, b⟩ := D
  exact pe_call G hr hg m kp b .nil pass0 ha hdb he hpl
theorem pe_dm {pl : Sem Bool} (c : Cls X.K C) (D : Dm X.prog X.w X.K X.mg X.base C m k ps sp) (hr : Room k X.A) (ho : PE X o ta) (ha : PA X (e :: es) t)
    (hst : starEach (e :: es) X.env = (false, eval e X.env) :: starEach es X.env := by rfl) (hpl : (backTo pos (starEach es X.env)).any (·.1) = false := by rfl)
    (ht : eval (.Call (.Attribute o m apos) (e :: es) [] pos) X.env = (do
      let ov ← eval o X.env
      standAt apos.atName
      let (f, first) ← holding [ov] (getMethod ov m pl)
      callWith pos f first (backTo pos (starEach (e :: es) X.env)) (backToKw pos (keywordEach [] X.env))) := by rfl) :
    PE X (.Call (.Attribute o m apos) (e :: es) [] pos) (tMeth C m sp [] E0 ta t) := by
  obtain ⟨f, fd, G, hm, b⟩ := D
  exact pe_meth ho c hm G hr b .nil pass0 ha hst hpl ht
theorem pe_dm0 {pl : Sem Bool} (c : Cls X.K C) (D : Dm X.prog X.w X.K X.mg X.base C m k ps sp) (hr : Room k X.A) (ho : PE X o ta)
    (ht : eval (.Call (.Attribute o m apos) [] [] pos) X.env = (do
      let ov ← eval o X.env
      standAt apos.atName
      let (f, first) ← holding [ov] (getMethod ov m pl)
      callWith pos f first (backTo pos (starEach [] X.env)) (backToKw pos (keywordEach [] X.env))) := by rfl) :
    PE X (.Call (.Attribute o m apos) [] [] pos) (tMeth C m sp [] E0 ta tNil) := by
  obtain ⟨f, fd, G, hm, b⟩ := D
  exact pe_meth0 ho c hm G hr b .nil pass0 ht
end
end T45

/-! One member more: passes, the law's next, the program's moved. -/
namespace T45
open PySem PySem.Spec PyProof.Rows L2
abbrev sPasses : Stmt := top 20
theorem scPasses : FnScope ["test", "member"] ["test", "member"] (defScope sPasses) := ⟨rfl, rfl, rfl, by decide +kernel, rfl, by decide +kernel, by decide +kernel⟩
abbrev sLawNext : Stmt := top 33
theorem scLawNext : FnScope ["_law_question", "_law_places", "_law_member", "_law_found", "_law_place", "_law_axis", "_law_test", "_law_filters"] ["_law_question", "_law_places", "_law_member"] (defScope sLawNext) := ⟨rfl, rfl, rfl, by decide +kernel, rfl, by decide +kernel, by decide +kernel⟩
abbrev sMoved : Stmt := top 21
theorem scMoved : FnScope ["question", "places", "member", "found", "place", "axis", "test", "filters"] ["question", "places", "member"] (defScope sMoved) := ⟨rfl, rfl, rfl, by decide +kernel, rfl, by decide +kernel, by decide +kernel⟩
def spPasses : Sp := spD fun ds r => ∃ t m : Sy, ds = [.str t.s, .str m.s] ∧ r = .bool (passes t m)
def spNext : Sp := spD fun ds r => ∃ (q : Qn) (ps : List Nat) (m : Sy), ds = [quesD q, natsD ps, .str m.s] ∧ q.length ≤ 4 ∧ ps.length ≤ 30 ∧ r = natsD (next q ps m)
/-! ### the places, gathered -/
theorem hit_nil (q : Qn) (m : Sy) (k : Nat) : hit q [] m k = false := by
  unfold hit
  cases k <;> simp
theorem hit_snoc (q : Qn) (ps : List Nat) (p : Nat) (m : Sy) (k : Nat) : hit q (ps ++ [p]) m k = (hit q ps m k || (decide (k = p) && below q p) || (decide (k = p + 1) && passAt q m p)) := by
  have mem : ∀ j, decide (j ∈ ps ++ [p]) = (decide (j ∈ ps) || decide (j = p)) := fun j => by
    by_cases h1 : j ∈ ps <;> by_cases h2 : j = p <;> simp [h1, h2]
  have bl : (decide (k = p) && below q k) = (decide (k = p) && below q p) := by
    by_cases h : k = p
    · rw [h]
    · simp [h]
  unfold hit
  rw [mem, Bool.and_or_distrib_right, bl]
  cases k with
  | zero =>
    have e : decide (0 = p + 1) = false := decide_eq_false (by omega)
    simp [e]
  | succ j =>
    dsimp only
    rw [mem, Bool.and_or_distrib_right]
    have e : decide (j + 1 = p + 1) = decide (j = p) := by
      by_cases h : j = p
      · subst h; simp
      · have : ¬ j + 1 = p + 1 := by omega
        simp [h]
    have e2 : (decide (j = p) && passAt q m j) = (decide (j = p) && passAt q m p) := by
      by_cases h : j = p
      · rw [h]
      · simp [h]
    rw [e, e2]
    generalize (decide (j + 1 ∈ ps) && below q (j + 1)) = a
    generalize (decide (j + 1 = p) && below q p) = b
    generalize (decide (j ∈ ps) && passAt q m j) = c
    generalize (decide (j = p) && passAt q m p) = d
    cases a <;> cases b <;> cases c <;> cases d <;> rfl
/-- no place twice, just those that are hit -/
structure Got (q : Qn) (ps : List Nat) (m : Sy) (ns : List Nat) : Prop where
  nd : ns.Nodup
  mem : ∀ k, k ∈ ns ↔ hit q ps m k = true
theorem Got.len {q : Qn} {ps : List Nat} {m : Sy} {ns : List Nat} (h : Got q ps m ns) : ns.length ≤ q.length + 1 := by
  have := nodup_len ns (List.range (q.length + 1)) h.nd fun x hx => List.mem_range.mpr (Nat.lt_succ_of_le (hit_le ((h.mem x).mp hx)))
  rw [List.length_range] at this
  exact this
theorem Got.nil (q : Qn) (m : Sy) : Got q [] m [] := ⟨.nil, fun k => by rw [hit_nil]; simp⟩
theorem nats_toNat (ns : List Nat) : (natsV ns).map Int.toNat = ns := by
  induction ns with
  | nil => rfl
  | cons n r ih =>
    show ((n : Int)).toNat :: (natsV r).map Int.toNat = n :: r
    rw [ih]
    rfl
theorem nonneg_nats : ∀ {is : List Int}, (∀ i ∈ is, 0 ≤ i) → is = natsV (is.map Int.toNat)
  | [], _ => rfl
  | i :: r, h => by
    show i :: r = ((i.toNat : Nat) : Int) :: natsV (r.map Int.toNat)
    rw [← nonneg_nats (is := r) fun x hx => h x (List.mem_cons_of_mem _ hx)]
    have := h i List.mem_cons_self
    rw [Int.toNat_of_nonneg this]
theorem lt_of_le_nd : ∀ {l : List Nat}, l.Pairwise (· ≤ ·) → l.Nodup → l.Pairwise (· < ·)
  | [], _, _ => .nil
  | x :: l, h, d => by
    obtain ⟨h1, h2⟩ := List.pairwise_cons.mp h
    obtain ⟨d1, d2⟩ := List.nodup_cons.mp d
    refine List.pairwise_cons.mpr ⟨fun y hy => ?_, lt_of_le_nd h2 d2⟩
    have a := h1 y hy
    have b : x ≠ y := fun z => d1 (z ▸ hy)
    omega
theorem Got.sorted {q : Qn} {ps : List Nat} {m : Sy} {ns : List Nat} (h : Got q ps m ns) {is : List Int} (p : is.Perm (natsV ns)) (so : is.Pairwise (· ≤ ·)) : is = natsV (next q ps m) := by
  have nn : ∀ i ∈ is, 0 ≤ i := fun i hi => by
    obtain ⟨n, _, rfl⟩ := List.mem_map.mp (p.mem_iff.mp hi)
    exact Int.natCast_nonneg n
  have e := nonneg_nats nn
  have pm : (is.map Int.toNat).Perm ns := by
    have := p.map Int.toNat
    rw [nats_toNat] at this
    exact this
  rw [e]
  refine congrArg natsV (sorted_ext (lt_of_le_nd ?_ (pm.nodup_iff.mpr h.nd)) (next_sorted q ps m) fun k => by rw [pm.mem_iff, h.mem, mem_next])
  rw [List.pairwise_map]
  exact so.imp fun {a b} hab => by omega
/-- two maybe-additions: the place itself, the place behind it -/
theorem Got.step {q : Qn} {ps : List Nat} {m : Sy} {ns ns1 ns2 : List Nat} {p : Nat} (h : Got q ps m ns) (h1 : ns1 = (if (below q p && !decide (p ∈ ns)) = true then ns ++ [p] else ns)) (h2 : ns2 = (if (passAt q m p && !decide (p + 1 ∈ ns1)) = true then ns1 ++ [p + 1] else ns1)) : Got q (ps ++ [p]) m ns2 := by
  have a : ns1.Nodup ∧ ∀ k, k ∈ ns1 ↔ (hit q ps m k || (decide (k = p) && below q p)) = true := by
    rw [h1]
    cases hb : below q p with
    | false =>
      simp only [Bool.false_and, Bool.false_eq_true, if_false, Bool.and_false, Bool.or_false]
      exact ⟨h.nd, h.mem⟩
    | true =>
      by_cases hp : p ∈ ns
      · have e : (true && !decide (p ∈ ns)) = false := by simp [hp]
        rw [e]
        refine ⟨h.nd, fun k => ?_⟩
        simp only [Bool.false_eq_true, if_false, Bool.and_true, Bool.or_eq_true, decide_eq_true_eq]
        rw [← h.mem k]
        exact ⟨.inl, fun z => z.elim id fun e => e ▸ hp⟩
      · have e : (true && !decide (p ∈ ns)) = true := by simp [hp]
        rw [if_pos e]
        refine ⟨List.nodup_append.mpr ⟨h.nd, by simp, fun x hx y hy => ?_⟩, fun k => ?_⟩
        · simp only [List.mem_singleton] at hy
          subst hy
          exact fun z => hp (z ▸ hx)
        · rw [List.mem_append, List.mem_singleton, Bool.and_true, Bool.or_eq_true, decide_eq_true_eq, h.mem k]
  obtain ⟨a1, a2⟩ := a
  have fin : ns2.Nodup ∧ ∀ k, k ∈ ns2 ↔ (hit q ps m k || (decide (k = p) && below q p) || (decide (k = p + 1) && passAt q m p)) = true := by
    rw [h2]
    cases hb : passAt q m p with
    | false =>
      simp only [Bool.false_and, Bool.false_eq_true, if_false, Bool.and_false, Bool.or_false]
      exact ⟨a1, a2⟩
    | true =>
      by_cases hp : p + 1 ∈ ns1
      · have e : (true && !decide (p + 1 ∈ ns1)) = false := by simp [hp]
        rw [e]
        refine ⟨a1, fun k => ?_⟩
        rw [if_neg Bool.false_ne_true, Bool.and_true, Bool.or_eq_true, decide_eq_true_eq, ← a2 k]
        exact ⟨.inl, fun z => z.elim id fun e => e ▸ hp⟩
      · have e : (true && !decide (p + 1 ∈ ns1)) = true := by simp [hp]
        rw [if_pos e]
        refine ⟨List.nodup_append.mpr ⟨a1, by simp, fun x hx y hy => ?_⟩, fun k => ?_⟩
        · simp only [List.mem_singleton] at hy
          subst hy
          exact fun z => hp (z ▸ hx)
        · rw [List.mem_append, List.mem_singleton, Bool.and_true, Bool.or_eq_true, decide_eq_true_eq, a2 k]
  exact ⟨fin.1, fun k => by rw [hit_snoc]; exact fin.2 k⟩
theorem Got.out {q : Qn} {ps : List Nat} {m : Sy} {ns : List Nat} {p : Nat} (h : Got q ps m ns) (hp : q.length ≤ p) : Got q (ps ++ [p]) m ns := by
  have b : below q p = false := by
    cases e : below q p with
    | false => rfl
    | true => exact absurd (below_lt e) (by omega)
  have c : passAt q m p = false := by
    cases e : passAt q m p with
    | false => rfl
    | true => exact absurd (passAt_lt e) (by omega)
  exact h.step (ns1 := ns) (by simp [b]) (by simp [c])
section
variable {P : Program} {w : World} {K : PySem.W.Frag} {mg : Str → Option Value} {base : Heap} {f : Addr} {fd : FuncData}
theorem ok_passes (D : Fd K mg "passes" sPasses ["test", "member"] f fd) (T : Tx mg) : Df P w K mg base "passes" 1 ["test", "member"] spPasses := by
  refine D.df (D.F.ok scPasses (spD_len fun ds r ⟨_, _, e, _⟩ => by rw [e]; rfl) fun cdv A outer s H vs Q E hr h => ?_)
  obtain ⟨Hd, ds, r, s0, hv, ⟨t, m, rfl, rfl⟩, k⟩ := h
  obtain ⟨v1, _, rfl, h1, hv⟩ := hv.cons_of
  obtain ⟨v2, _, rfl, h2, hv⟩ := hv.cons_of
  rw [hv.nil_of]
  refine ⟨_, (pss_one (ps_ret (pe_or (pe_cmpR op_eq (pv 0) (pv 1) (nomark _)) (pe_one (pe_and (pe_cmpR op_eq (pv 0) pe_str (nomark _)) (pe_one (pe_cmpR op_ne (pv 1) (pe_gS (by rfl) T.mTEXT) (nomark _)))))))), ?_⟩
  refine s_ret (.refl s0) ((ed_orV (ed_op (ed_var rfl h1) (ed_var rfl h2) rd_eqS) fun _ => ed_andV (ed_op (ed_var rfl h1) ed_str rd_eqS) fun _ => ed_op (ed_var rfl h2) ed_str rd_neS).is ?_) k
  show PyData.bool (decide (t.s = m.s) || (decide (t.s = Sy.star.s) && !decide (m.s = Sy.hash.s))) = _
  simp only [Sy.s_eq, passes]
theorem ok_law_next (D : Fd K mg "_law_next" sLawNext ["_law_question", "_law_places", "_law_member"] f fd) (T : Tx mg) : Df P w K mg base "_law_next" 1 ["_law_question", "_law_places", "_law_member"] spNext := by
  refine D.df (D.F.ok scLawNext (spD_len fun ds r ⟨_, _, _, e, _⟩ => by rw [e]; rfl) fun cdv A outer s H vs Q E hr h => ?_)
  obtain ⟨Hd, ds, r, s0, hv, ⟨q, ps, m, rfl, hq, hps, rfl⟩, k⟩ := h
  obtain ⟨v0, _, rfl, x0, hv⟩ := hv.cons_of
  obtain ⟨v1, _, rfl, x1, hv⟩ := hv.cons_of
  obtain ⟨v2, _, rfl, x2, hv⟩ := hv.cons_of
  rw [hv.nil_of]
  refine ⟨_, (pss_cons (ps_set (i := 3) scLawNext.nd rfl (Or.inl rfl) (pe_lst pa_nil)) (pss_cons (ps_for PassesOwn.never rfl (pi_list (pv 1)) (pg_name (i := 4) scLawNext.nd rfl (Or.inl rfl) (Or.inr rfl)) (pss_one (ps_if (pt_cmpR op_lt (pv 4) (pe_callB (cr_lenK (K := K) rfl) (by rfl) T.mlen PySem.boot_len (pa_cons (pv 0) pa_nil)) (nomark _)) (pss_cons (ps_asg (pe_ix (ix_listK (K := K) rfl) (pv 0) (pv 4) (fun _ _ => rfl)) (pg_tupK (K := K) (n := 3) rfl rfl (pgs_cons (pg_name (i := 5) scLawNext.nd rfl (Or.inl rfl) (Or.inr rfl)) (pgs_cons (pg_name (i := 6) scLawNext.nd rfl (Or.inl rfl) (Or.inr rfl)) (pgs_cons (pg_name (i := 7) scLawNext.nd rfl (Or.inl rfl) (Or.inr rfl)) pgs_nil))))) (pss_cons (ps_if (PW.pt (pw_and (pt_cmpR op_eq (pv 5) pe_str (nomark _)) (pw_and1 (pt_cmpR (op_niK (K := K) rfl) (pv 4) (pv 3) (by rfl))))) (pss_one (ps_expr (pe_bm PySem.F.plainAttrs_list PySem.F.slot_list_append PySem.F.type_list_append mt_append (pv 3) (pa_cons (pv 4) pa_nil)))) pss_nil) (pss_one (ps_if (PW.pt (pw_and (PW.pt (pw_or (pt_cmpR op_eq (pv 6) (pv 2) (nomark _)) (pw_or1 (PW.pt (pw_and (pt_cmpR op_eq (pv 6) pe_str (nomark _)) (pw_and1 (pt_cmpR op_ne (pv 2) pe_str (nomark _)))))))) (pw_and1 (pt_cmpR (op_niK (K := K) rfl) (pe_op op_add (pv 4) pe_int) (pv 3) (by rfl))))) (pss_one (ps_expr (pe_bm PySem.F.plainAttrs_list PySem.F.slot_list_append PySem.F.type_list_append mt_append (pv 3) (pa_cons (pe_op op_add (pv 4) pe_int) pa_nil)))) pss_nil)))) pss_nil))) (pss_one (ps_ret (pe_callB cr_sorted (by rfl) T.msorted (by decide +kernel) (pa_cons (pv 3) pa_nil)))))), ?_⟩
  refine q_newL (.refl s0) fun l hl hdl G => ?_
  refine q_for G (ed_var rfl x1) (fun i σ Hd' H' => ∃ ns a b c e, σ = [some v0, some v1, some v2, some (.ref l), a, b, c, e] ∧ Gr Hd H Hd' H' ∧ Hd' l = none ∧ H' l = some (.lst ((natsV ns).map V.int)) ∧ Got q (ps.take i) m ns)
    (fun Hd' H' G1 g1 => ?_) (fun Hd1 sd1 i d x σ Hd' H' hi sd sh xd ⟨ns, a, b, c, e, hσ, G1, n1, n2, got⟩ => ?_) fun σ Hd' H' sd sh ⟨ns, a, b, c, e, hσ, G1, n1, n2, got⟩ => ?_
  · obtain ⟨n1, n2⟩ := g1.out hdl upd_same
    exact ⟨[], none, none, none, none, rfl, G1, n1, n2, .nil q m⟩
  · obtain ⟨n, hn, rfl⟩ := map_inj_list hi
    obtain ⟨p, hp, rfl⟩ : ∃ p, ps[i]? = some p ∧ n = (p : Int) := by
      rw [List.getElem?_map] at hn
      cases e : ps[i]? with
      | none => rw [e] at hn; cases hn
      | some p => rw [e] at hn; exact ⟨p, rfl, (Option.some.inj hn).symm⟩
    subst hσ
    have y0 := x0.mono (sd1.trans sd)
    have y2 := x2.mono (sd1.trans sd)
    have hl63 := got.len
    refine s_when G1 (et_test (ed_op (ed_var rfl xd) (ed_cb (ea_cons (ed_var rfl y0) ea_nil) rc_len) rd_lt)) (fun hb H1 G2 g2 => ?_) (fun hb H1 G2 g2 => ?_)
    · have hlt : p < q.length := by
        have := of_decide_eq_true hb
        rw [List.length_map] at this
        omega
      have hs : q[p]? = some q[p] := List.getElem?_eq_getElem hlt
      refine q_asg3 G2 (ed_op (ed_var rfl y0) (ed_var rfl xd) (rd_ixL (j := p) (quesD_get hs))) fun u1 u2 u3 Hd2 H2 G3 g3 z1 z2 z3 => ?_
      obtain ⟨m1, m2⟩ := g3.out n1 (g2.h _ _ n2)
      have lenN : ((natsV ns).map V.int).length < 1000000 := by rw [List.length_map, List.length_map]; omega
      refine q_ifApp G3 hl m1 m2 rfl (et_and (et_test (ed_op (ed_var rfl z1) ed_str rd_eqS)) fun _ => et_test (ed_niIM (ed_var rfl (xd.mono g3.d)) rfl m2)) (fun _ => ed_var rfl (xd.mono g3.d)) lenN fun xs1 Hd4 H4 G4 d4 k1 k2 h4 => ?_
      obtain ⟨ns1, rfl, e1⟩ : ∃ ns1, xs1 = (natsV ns1).map V.int ∧ ns1 = (if (below q p && !decide (p ∈ ns)) = true then ns ++ [p] else ns) := by
        have eb : (decide (axS q[p].1 = ("below" : Str)) && !decide ((p : Int) ∈ natsV ns)) = (below q p && !decide (p ∈ ns)) := by
          rw [ax_below, mem_nats]
          unfold below
          rw [hs]
        rw [eb] at h4
        rcases h4 with ⟨hb4, v, rfl, hv⟩ | ⟨hb4, rfl⟩
        · rw [hb4, hv.int_of]
          exact ⟨_, by simp, rfl⟩
        · rw [hb4]
          exact ⟨_, rfl, rfl⟩
      have len1 : ((natsV ns1).map V.int).length < 1000000 := by
        rw [List.length_map, List.length_map, e1]
        split
        · rw [List.length_append, List.length_singleton]; omega
        · omega
      refine s_ifApp G4 hl k1 k2 rfl (et_and (et_or (et_test (ed_op (ed_var rfl (z2.mono d4)) (ed_var rfl (y2.mono (g3.d.trans d4))) rd_eqS)) fun _ => et_and (et_test (ed_op (ed_var rfl (z2.mono d4)) ed_str rd_eqS)) fun _ => et_test (ed_op (ed_var rfl (y2.mono (g3.d.trans d4))) ed_str rd_neS))
        fun _ => et_test (ed_niIM (ed_op (ed_var rfl (xd.mono (g3.d.trans d4))) ed_int rd_add) rfl k2)) (fun _ => ed_op (ed_var rfl (xd.mono (g3.d.trans d4))) ed_int rd_add) len1 fun xs2 Hd5 H5 G5 d5 j1 j2 h5 => ?_
      obtain ⟨ns2, rfl, e2⟩ : ∃ ns2, xs2 = (natsV ns2).map V.int ∧ ns2 = (if (passAt q m p && !decide (p + 1 ∈ ns1)) = true then ns1 ++ [p + 1] else ns1) := by
        have eb : ((decide (q[p].2.s = m.s) || (decide (q[p].2.s = Sy.star.s) && !decide (m.s = Sy.hash.s))) && !decide (((p : Int) + 1) ∈ natsV ns1)) = (passAt q m p && !decide (p + 1 ∈ ns1)) := by
          have e : ((p : Int) + 1) = ((p + 1 : Nat) : Int) := by omega
          rw [e, mem_nats]
          simp only [Sy.s_eq]
          unfold passAt
          rw [hs]
          rfl
        have h5 := h5
        rw [show ((decide (q[p].2.s = m.s) || (decide (q[p].2.s = ("*" : Str)) && !decide (m.s = ("#" : Str)))) && !decide (((p : Int) + 1) ∈ natsV ns1)) = _ from eb] at h5
        rcases h5 with ⟨hb5, v, rfl, hv⟩ | ⟨hb5, rfl⟩
        · rw [hb5, hv.int_of]
          refine ⟨_, ?_, rfl⟩
          simp
        · rw [hb5]
          exact ⟨_, rfl, rfl⟩
      refine ⟨Hd5, sd.trans ((g3.d.trans d4).trans d5), G5.s, ns2, _, _, _, _, rfl, G5, j1, j2, ?_⟩
      rw [take_succ_get hp]
      exact got.step e1 e2
    · have hge : q.length ≤ p := by
        have := of_decide_eq_false hb
        rw [List.length_map] at this
        omega
      refine ⟨Hd', sd, g2.s, ns, _, _, _, _, rfl, G2, n1, g2.h _ _ n2, ?_⟩
      rw [take_succ_get hp]
      exact got.out hge
  · subst hσ
    have hl63 := got.len
    have e : ps.take ((natsV ps).map PyData.int).length = ps := by rw [List.length_map, List.length_map]; exact List.take_length
    rw [e] at got
    refine ⟨_, rfl, l, natsV ns, rfl, SqL.of n2, by rw [List.length_map]; omega, fun is p pm so hp => ?_⟩
    rw [got.sorted pm so]
    have g : Gr Hd' H' (upd Hd' p (.lst ((natsV (next q ps m)).map V.int))) (upd H' p (.lst ((natsV (next q ps m)).map V.int))) := .new G1.s hp
    exact k _ _ _ (G1.trans g) (.lst upd_same (.of_ints _))

/-! ### the program's, by a set -/
theorem s_sadd {σ : L2.St} {Hd H Hd0 H0 : Hp} {D : Ends} {i : Nat} {te : TE} {l : Addr} {S : Int → Bool} {n : Nat} {z : Int} (G : Gr Hd0 H0 Hd H) (l0 : H0 l = none) (hd : Hd l = none) (hl : H l = some (SetO w l S n)) (hv : σ[i]? = some (some (.ref l))) (h : Ed te σ H Hd (.int z)) (hz : n < 1000)
    (k : ∀ n' H', n' ≤ n + 1 → Gr Hd0 H0 Hd H' → H' l = some (SetO w l (fun j => S j || decide (j = z)) n') → D.nx σ H') : tDrop (tSAdd w (tVar i) (tCons te tNil)) D σ H :=
  ⟨_, hv, ⟨l, S, n, rfl, hl⟩, h Hd H (.refl G.s) _ fun v Hd' H' g x => by
    rw [x.int_of]
    have g' := g.up.no
    refine ⟨l, z, S, n, rfl, rfl, g'.h _ _ hl, Nat.lt_of_le_of_lt hz (by decide), k _ _ ?_ ((G.trans g').mut l0 hd) upd_same⟩
    split <;> omega⟩
/-- if ..: found.add(e) -/
theorem s_ifAdd {σ : L2.St} {Hd H Hd0 H0 : Hp} {D : Ends} {i : Nat} {te : TE} {tt : TT} {b : Bool} {l : Addr} {S : Int → Bool} {n : Nat} {z : Int} (G : Gr Hd0 H0 Hd H) (l0 : H0 l = none) (hd : Hd l = none) (hl : H l = some (SetO w l S n)) (hv : σ[i]? = some (some (.ref l))) (ht : Et tt σ H Hd b) (h : Ed te σ H Hd (.int z)) (hz : n < 1000)
    (k : ∀ S' n' H', n' ≤ n + 1 → Gr Hd0 H0 Hd H' → H' l = some (SetO w l S' n') → (∀ j, S' j = (S j || (decide (j = z) && b))) → D.nx σ H') : tIfS tt (tDrop (tSAdd w (tVar i) (tCons te tNil))) tNext D σ H :=
  s_when G ht (fun hb H1 G1 g1 => s_sadd G1 l0 hd (g1.h _ _ hl) hv (h.mono (Same.refl _) g1.h) hz fun n' H' hn G2 h2 => k _ n' H' hn G2 h2 fun j => by rw [hb, Bool.and_true])
    fun hb H1 G1 g1 => k S n H1 (Nat.le_succ _) G1 (g1.h _ _ hl) fun j => by rw [hb, Bool.and_false, Bool.or_false]
theorem q_ifAdd {σ : L2.St} {Hd H Hd0 H0 : Hp} {D : Ends} {i : Nat} {te : TE} {tt : TT} {tz : TS} {b : Bool} {l : Addr} {S : Int → Bool} {n : Nat} {z : Int} (G : Gr Hd0 H0 Hd H) (l0 : H0 l = none) (hd : Hd l = none) (hl : H l = some (SetO w l S n)) (hv : σ[i]? = some (some (.ref l))) (ht : Et tt σ H Hd b) (h : Ed te σ H Hd (.int z)) (hz : n < 1000)
    (k : ∀ S' n' H', n' ≤ n + 1 → Gr Hd0 H0 Hd H' → H' l = some (SetO w l S' n') → (∀ j, S' j = (S j || (decide (j = z) && b))) → tz D σ H') : tSeq (tIfS tt (tDrop (tSAdd w (tVar i) (tCons te tNil))) tNext) tz D σ H := s_ifAdd (D := { D with nx := tz D }) G l0 hd hl hv ht h hz k
/-- the places as a set of ints -/
def hitI (q : Qn) (ps : List Nat) (m : Sy) (j : Int) : Bool := decide (0 ≤ j) && hit q ps m j.toNat
theorem hitI_snoc (q : Qn) (ps : List Nat) (p : Nat) (m : Sy) (j : Int) : hitI q (ps ++ [p]) m j = ((hitI q ps m j || (decide (j = (p : Int)) && below q p)) || (decide (j = (p : Int) + 1) && passAt q m p)) := by
  unfold hitI
  rw [hit_snoc]
  by_cases h0 : 0 ≤ j
  · obtain ⟨k, rfl⟩ : ∃ k : Nat, j = (k : Int) := ⟨j.toNat, by omega⟩
    have e1 : decide ((k : Int) = (p : Int)) = decide (k = p) := by
      by_cases h : k = p
      · subst h; simp
      · have : ¬ (k : Int) = p := by omega
        simp [h, this]
    have e2 : decide ((k : Int) = (p : Int) + 1) = decide (k = p + 1) := by
      by_cases h : k = p + 1
      · subst h; simp
      · have : ¬ (k : Int) = (p : Int) + 1 := by omega
        simp [h, this]
    rw [e1, e2, decide_eq_true h0, Int.toNat_natCast]
    simp
  · have e1 : decide (j = (p : Int)) = false := decide_eq_false (by omega)
    have e2 : decide (j = (p : Int) + 1) = false := decide_eq_false (by omega)
    rw [decide_eq_false h0, e1, e2]
    simp
theorem hitI_out {q : Qn} {ps : List Nat} {p : Nat} {m : Sy} (hp : q.length ≤ p) (j : Int) : hitI q (ps ++ [p]) m j = hitI q ps m j := by
  have b : below q p = false := by
    cases e : below q p with
    | false => rfl
    | true => exact absurd (below_lt e) (by omega)
  have c : passAt q m p = false := by
    cases e : passAt q m p with
    | false => rfl
    | true => exact absurd (passAt_lt e) (by omega)
  rw [hitI_snoc, b, c]
  simp
theorem sorted_hitI {q : Qn} {ps : List Nat} {m : Sy} {is : List Int} (so : is.Pairwise (· < ·)) (mem : ∀ j, j ∈ is ↔ hitI q ps m j = true) : is = natsV (next q ps m) := by
  have nn : ∀ i ∈ is, 0 ≤ i := fun i hi => by
    have := (mem i).mp hi
    unfold hitI at this
    rw [Bool.and_eq_true, decide_eq_true_eq] at this
    exact this.1
  rw [nonneg_nats nn]
  refine congrArg natsV (sorted_ext ?_ (next_sorted q ps m) fun k => ?_)
  · rw [List.pairwise_map]
    exact (List.Pairwise.and_mem.mp so).imp fun {a b} ⟨ha, hb, h⟩ => by
      have := nn a ha
      have := nn b hb
      omega
  · rw [mem_next, List.mem_map]
    constructor
    · rintro ⟨j, hj, rfl⟩
      have := (mem j).mp hj
      unfold hitI at this
      rw [Bool.and_eq_true] at this
      exact this.2
    · intro h
      refine ⟨(k : Int), (mem _).mpr ?_, Int.toNat_natCast k⟩
      unfold hitI
      rw [Int.toNat_natCast, h]
      simp
theorem ok_moved (D : Fd K mg "moved" sMoved ["question", "places", "member"] f fd) (T : Tx mg) (D_passes : Df P w K mg base "passes" 1 ["test", "member"] spPasses) : Df P w K mg base "moved" 2 ["question", "places", "member"] spNext := by
  refine D.df (D.F.ok scMoved (spD_len fun ds r ⟨_, _, _, e, _⟩ => by rw [e]; rfl) fun cdv A outer s H vs Q E hr h => ?_)
  obtain ⟨Hd, ds, r, s0, hv, ⟨q, ps, m, rfl, hq, hps, rfl⟩, k⟩ := h
  obtain ⟨v0, _, rfl, x0, hv⟩ := hv.cons_of
  obtain ⟨v1, _, rfl, x1, hv⟩ := hv.cons_of
  obtain ⟨v2, _, rfl, x2, hv⟩ := hv.cons_of
  rw [hv.nil_of]
  refine ⟨_, (pss_cons (ps_set (i := 3) scMoved.nd rfl (Or.inl rfl) (pe_callTy0 cr_set0 (by rfl) T.mset (by decide +kernel))) (pss_cons (ps_for PassesOwn.never rfl (pi_list (pv 1)) (pg_name (i := 4) scMoved.nd rfl (Or.inl rfl) (Or.inr rfl)) (pss_one (ps_if (pt_cmpR op_lt (pv 4) (pe_callB (cr_lenK (K := K) rfl) (by rfl) T.mlen PySem.boot_len (pa_cons (pv 0) pa_nil)) (nomark _)) (pss_cons (ps_asg (pe_ix (ix_listK (K := K) rfl) (pv 0) (pv 4) (fun _ _ => rfl)) (pg_tupK (K := K) (n := 3) rfl rfl (pgs_cons (pg_name (i := 5) scMoved.nd rfl (Or.inl rfl) (Or.inr rfl)) (pgs_cons (pg_name (i := 6) scMoved.nd rfl (Or.inl rfl) (Or.inr rfl)) (pgs_cons (pg_name (i := 7) scMoved.nd rfl (Or.inl rfl) (Or.inr rfl)) pgs_nil))))) (pss_cons (ps_if (pt_cmpR op_eq (pv 5) pe_str (nomark _)) (pss_one (ps_expr (pe_sadd (pv 3) (pa_cons (pv 4) pa_nil)))) pss_nil) (pss_one (ps_if (pt_val (pe_df D_passes (hr.mono (by decide)) (by rfl) (pa_cons (pv 6) (pa_cons (pv 2) pa_nil)))) (pss_one (ps_expr (pe_sadd (pv 3) (pa_cons (pe_op op_add (pv 4) pe_int) pa_nil)))) pss_nil)))) pss_nil))) (pss_one (ps_ret (pe_callB (cr_sortedSet rfl) (by rfl) T.msorted (by decide +kernel) (pa_cons (pv 3) pa_nil)))))), ?_⟩
  refine ⟨rfl, fun l hl => ?_⟩
  have hdl : Hd l = none := s0.free hl
  have G : Gr Hd H Hd (upd H l (SetO w l (fun _ => false) 0)) := .newM s0 hl
  refine q_for G (ed_var rfl x1) (fun i σ Hd' H' => ∃ S n a b c e, σ = [some v0, some v1, some v2, some (.ref l), a, b, c, e] ∧ Gr Hd H Hd' H' ∧ Hd' l = none ∧ H' l = some (SetO w l S n) ∧ n ≤ 2 * i ∧ ∀ j, S j = hitI q (ps.take i) m j)
    (fun Hd' H' G1 g1 => ?_) (fun Hd1 sd1 i d x σ Hd' H' hi sd sh xd ⟨S, n, a, b, c, e, hσ, G1, n1, n2, hn, hS⟩ => ?_) fun σ Hd' H' sd sh ⟨S, n, a, b, c, e, hσ, G1, n1, n2, hn, hS⟩ => ?_
  · obtain ⟨n1, n2⟩ := g1.out hdl upd_same
    refine ⟨_, 0, none, none, none, none, rfl, G1, n1, n2, Nat.le_refl _, fun j => ?_⟩
    show false = (decide (0 ≤ j) && hit q [] m j.toNat)
    rw [hit_nil, Bool.and_false]
  · obtain ⟨n', hn', rfl⟩ := map_inj_list hi
    obtain ⟨p, hp, rfl⟩ : ∃ p, ps[i]? = some p ∧ n' = (p : Int) := by
      rw [List.getElem?_map] at hn'
      cases e : ps[i]? with
      | none => rw [e] at hn'; cases hn'
      | some p => rw [e] at hn'; exact ⟨p, rfl, (Option.some.inj hn').symm⟩
    have hi30 : i < ps.length := (List.getElem?_eq_some_iff.mp hp).1
    subst hσ
    have y0 := x0.mono (sd1.trans sd)
    have y2 := x2.mono (sd1.trans sd)
    refine s_when G1 (et_test (ed_op (ed_var rfl xd) (ed_cb (ea_cons (ed_var rfl y0) ea_nil) rc_len) rd_lt)) (fun hb H1 G2 g2 => ?_) (fun hb H1 G2 g2 => ?_)
    · have hlt : p < q.length := by
        have := of_decide_eq_true hb
        rw [List.length_map] at this
        omega
      have hs : q[p]? = some q[p] := List.getElem?_eq_getElem hlt
      refine q_asg3 G2 (ed_op (ed_var rfl y0) (ed_var rfl xd) (rd_ixL (j := p) (quesD_get hs))) fun u1 u2 u3 Hd2 H2 G3 g3 z1 z2 z3 => ?_
      obtain ⟨m1, m2⟩ := g3.out n1 (g2.h _ _ n2)
      refine q_ifAdd G3 hl m1 m2 rfl (et_test (ed_op (ed_var rfl z1) ed_str rd_eqS)) (ed_var rfl (xd.mono g3.d)) (by omega) fun S1 k1 H4 hk1 G4 m4 e4 => ?_
      refine s_ifAdd G4 hl m1 m4 rfl (et_B (ed_call (ea_cons (ed_var rfl z2) (ea_cons (ed_var rfl (y2.mono g3.d)) ea_nil)) ⟨_, _, rfl, rfl⟩)) (ed_op (ed_var rfl (xd.mono g3.d)) ed_int rd_add) (by omega) fun S2 k2 H5 hk2 G5 m5 e5 => ?_
      refine ⟨Hd2, sd.trans g3.d, G5.s, S2, k2, _, _, _, _, rfl, G5, m1, m5, by omega, fun j => ?_⟩
      rw [take_succ_get hp, hitI_snoc, e5, e4, hS, ax_below]
      unfold below passAt
      rw [hs]
    · have hge : q.length ≤ p := by
        have := of_decide_eq_false hb
        rw [List.length_map] at this
        omega
      refine ⟨Hd', sd, g2.s, S, n, _, _, _, _, rfl, G2, n1, g2.h _ _ n2, by omega, fun j => ?_⟩
      rw [take_succ_get hp, hitI_out hge]
      exact hS j
  · subst hσ
    have hl2 : ((natsV ps).map PyData.int).length = ps.length := by rw [List.length_map, List.length_map]
    rw [hl2] at hn
    have e : ps.take ((natsV ps).map PyData.int).length = ps := by rw [hl2]; exact List.take_length
    rw [e] at hS
    refine ⟨_, rfl, l, S, n, rfl, n2, by omega, fun is p so mem len hp => ?_⟩
    rw [sorted_hitI so fun j => by rw [mem j, hS j]]
    have g : Gr Hd' H' (upd Hd' p (.lst ((natsV (next q ps m)).map V.int))) (upd H' p (.lst ((natsV (next q ps m)).map V.int))) := .new G1.s hp
    exact k _ _ _ (G1.trans g) (.lst upd_same (.of_ints _))
end
end T45

/-! A question is proper; whether it takes a chain. -/
namespace T45
open PySem PySem.Spec PyProof.Rows L2
abbrev sIsName : Stmt := top 10
theorem scIsName : FnScope ["text", "letter"] ["text"] (defScope sIsName) := ⟨rfl, rfl, rfl, by decide +kernel, rfl, by decide +kernel, by decide +kernel⟩
abbrev sStepCount : Stmt := top 11
theorem scStepCount : FnScope ["question", "count", "axis", "test", "filters", "row"] ["question"] (defScope sStepCount) := ⟨rfl, rfl, rfl, by decide +kernel, rfl, by decide +kernel, by decide +kernel⟩
abbrev sHasForm : Stmt := top 13
theorem scHasForm : FnScope ["question", "depth", "axis", "test", "filters", "row"] ["question", "depth"] (defScope sHasForm) := ⟨rfl, rfl, rfl, by decide +kernel, rfl, by decide +kernel, by decide +kernel⟩
abbrev sIsProper : Stmt := top 14
theorem scIsProper : FnScope ["question"] ["question"] (defScope sIsProper) := ⟨rfl, rfl, rfl, by decide +kernel, rfl, by decide +kernel, by decide +kernel⟩
abbrev sCheck : Stmt := top 17
theorem scCheck : FnScope ["questions", "number", "question", "axis", "test", "filters"] ["questions"] (defScope sCheck) := ⟨rfl, rfl, rfl, by decide +kernel, rfl, by decide +kernel, by decide +kernel⟩
abbrev sTakes : Stmt := top 22
theorem scTakes : FnScope ["question", "chain", "places", "member"] ["question", "chain"] (defScope sTakes) := ⟨rfl, rfl, rfl, by decide +kernel, rfl, by decide +kernel, by decide +kernel⟩
abbrev sLawTakes : Stmt := top 34
theorem scLawTakes : FnScope ["_law_question", "_law_chain", "_law_places", "_law_member"] ["_law_question", "_law_chain"] (defScope sLawTakes) := ⟨rfl, rfl, rfl, by decide +kernel, rfl, by decide +kernel, by decide +kernel⟩
/-- of one to four steps -/
def Good (q : Qn) : Prop := 1 ≤ q.length ∧ q.length ≤ 4
def spIsName : Sp := spD fun ds r => ∃ s : Sy, ds = [.str s.s] ∧ s ≠ .hash ∧ s ≠ .star ∧ r = .bool true
def spStepCount : Sp := spD fun ds r => ∃ q : Qn, ds = [quesD q] ∧ Good q ∧ r = .int (q.length : Int)
def spHasForm : Sp := spD fun ds r => ∃ q : Qn, ds = [quesD q, .int 1] ∧ Good q ∧ r = .bool true
def spIsProper : Sp := spD fun ds r => ∃ q : Qn, ds = [quesD q] ∧ Good q ∧ r = .bool true
def spCheck : Sp := spD fun ds r => ∃ qs : List Qn, ds = [.list (qs.map quesD)] ∧ (∀ q ∈ qs, Good q) ∧ r = .none
def spTakes : Sp := spD fun ds r => ∃ (q : Qn) (c : List Sy), ds = [quesD q, chainD c] ∧ Good q ∧ r = .bool (takes q c)
theorem list_len (q : Qn) : ((q.map stepD).length : Int) = (q.length : Int) := by rw [List.length_map]
section
variable {P : Program} {w : World} {K : PySem.W.Frag} {mg : Str → Option Value} {base : Heap} {f : Addr} {fd : FuncData}
theorem ok_is_name (D : Fd K mg "is_name" sIsName ["text"] f fd) (T : Tx mg) : Df P w K mg base "is_name" 1 ["text"] spIsName := by
  refine D.df (D.F.ok scIsName (spD_len fun ds r ⟨_, e, _⟩ => by rw [e]; rfl) fun cdv A outer s H vs Q E hr h => ?_)
  obtain ⟨Hd, ds, r, s0, hv, ⟨y, rfl, n1, n2, rfl⟩, k⟩ := h
  obtain ⟨v0, _, rfl, x0, hv⟩ := hv.cons_of
  rw [hv.nil_of]
  refine ⟨_, (pss_one (ps_ret (pe_and (pe_chain op_le op_le pe_int (pe_callB call_len_str (by rfl) T.mlen PySem.boot_len (pa_cons (pv 0) pa_nil)) pe_int) (pe_one (pe_callB (cr_all rfl) (by rfl) T.mall (by decide +kernel) (pa_cons (pe_lc (own := [("letter", 1)]) rfl scIsName.nd (pi_str (pv 0)) (blkOk_by (own := [("letter", 1)]) (N := ["text", "letter"]) (sc := defScope sIsName) (by decide +kernel)) (fun _ _ _ _ _ => (pg_name (i := 1) scIsName.nd rfl (Or.inl rfl) (Or.inr rfl))) (fun _ _ _ _ _ => pts_nil) (fun _ _ _ _ _ => (pe_cmpR op_in_sign (pv 1) (pe_gS (by rfl) T.mLETTERS) (by rfl)))) pa_nil)))))), ?_⟩
  have len : Rc (fun xs H Q => ∃ z, xs = [.str z] ∧ z.length ≤ sizeLine ∧ Q (.int z.length) H) [.str y.s] (.int 1) := fun Hd1 H1 b xs hx Q q => by
    obtain ⟨v, ws, rfl, h1, h2⟩ := hx.cons_of
    rw [h2.nil_of, h1.str_of]
    refine ⟨y.s, rfl, by rw [y.len]; decide, ?_⟩
    rw [y.len]
    exact q _ Hd1 H1 (.refl b) (.int _)
  refine s_ret (.refl s0) ((ed_andV (et_chain ed_int (ed_cb (ea_cons (ed_var rfl x0) ea_nil) len) ed_int rd_le fun _ => rd_le) fun _ =>
    ed_cb (ea_cons ((ed_lcS (fun c => .bool (decide (c ∈ ("abcdefghijklmnopqrstuvwxyz" : Str).cps.toList))) (ed_var rfl x0) (by rw [y.cps]; show 1 < 1000000; decide) fun Hd1 H1 u c hc => ⟨_, tg_name, rfl, ed_op (ed_var rfl (.str _)) ed_str rd_inSign⟩).is
      (e := .list (([true] : List Bool).map PyData.bool)) ?_) ea_nil) rc_all).is ?_) k
  · rw [y.cps]
    show PyData.list [.bool (decide (y.cp ∈ ("abcdefghijklmnopqrstuvwxyz" : Str).cps.toList))] = PyData.list [.bool true]
    have e : decide (y.cp ∈ ("abcdefghijklmnopqrstuvwxyz" : Str).cps.toList) = true := by
      cases y
      · exact absurd rfl n1
      · exact absurd rfl n2
      · decide +kernel
      · decide +kernel
      · decide +kernel
    rw [e]
  · rfl
theorem ok_step_count (D : Fd K mg "step_count" sStepCount ["question"] f fd) (T : Tx mg) : Df P w K mg base "step_count" 1 ["question"] spStepCount := by
  refine D.df (D.F.ok scStepCount (spD_len fun ds r ⟨_, e, _⟩ => by rw [e]; rfl) fun cdv A outer s H vs Q E hr h => ?_)
  obtain ⟨Hd, ds, r, s0, hv, ⟨q, rfl, hq, rfl⟩, k⟩ := h
  obtain ⟨v0, _, rfl, x0, hv⟩ := hv.cons_of
  rw [hv.nil_of]
  refine ⟨_, (pss_cons (ps_set (i := 1) scStepCount.nd rfl (Or.inl rfl) (pe_callB (cr_lenK (K := K) rfl) (by rfl) T.mlen PySem.boot_len (pa_cons (pv 0) pa_nil))) (pss_cons (ps_for PassesOwn.never rfl (pi_list (pv 0)) (pg_tupK (K := K) (n := 3) rfl rfl (pgs_cons (pg_name (i := 2) scStepCount.nd rfl (Or.inl rfl) (Or.inr rfl)) (pgs_cons (pg_name (i := 3) scStepCount.nd rfl (Or.inl rfl) (Or.inr rfl)) (pgs_cons (pg_name (i := 4) scStepCount.nd rfl (Or.inl rfl) (Or.inr rfl)) pgs_nil)))) (pss_one (ps_for PassesOwn.never rfl (pi_list (pv 4)) (pg_name (i := 5) scStepCount.nd rfl (Or.inl rfl) (Or.inr rfl)) pss_never))) (pss_one (ps_ret (pv 1))))), ?_⟩
  refine q_asg (.refl s0) (ed_cb (ea_cons (ed_var rfl x0) ea_nil) rc_len) fun c Hd1 H1 G1 g1 xc => ?_
  refine q_for G1 (ed_var rfl (x0.mono g1.d)) (fun i σ Hd' H' => ∃ a b c' d, σ = [some v0, some c, a, b, c', d] ∧ Gr Hd H Hd' H') (fun Hd' H' G2 g2 => ⟨none, none, none, none, rfl, G2⟩)
    (fun Hd2 sd2 i d x σ Hd' H' hi sd sh xd ⟨a, b, c', e, hσ, G2⟩ => ?_) fun σ Hd' H' sd sh ⟨a, b, c', d, hσ, G2⟩ => ?_
  · obtain ⟨st, hst, rfl⟩ := map_inj_list hi
    subst hσ
    obtain ⟨p, u1, u2, u3, rfl, hp, z1, z2, z3⟩ := xd.tup3
    refine tg_3 hp H' sh _ ?_
    refine s_for G2 (ed_var rfl z3) (fun _ σ Hd' H' => ∃ a b c' d, σ = [some v0, some c, a, b, c', d] ∧ Gr Hd H Hd' H') (fun Hd3 H3 G3 g3 => ⟨_, _, _, _, rfl, G3⟩) (fun Hd3 sd3 i d x σ Hd' H' hi _ _ _ _ => by cases hi) fun σ Hd3 H3 sd3 sh3 ⟨a, b, c', d, hσ, G3⟩ => ?_
    exact ⟨Hd3, sd.trans sd3, sh3, a, b, c', d, hσ, G3⟩
  · subst hσ
    refine s_ret G2 ((ed_var rfl (xc.mono sd)).is ?_) k
    rw [list_len]
theorem ok_has_form (D : Fd K mg "has_form" sHasForm ["question", "depth"] f fd) (T : Tx mg) (D_is_name : Df P w K mg base "is_name" 1 ["text"] spIsName) : Df P w K mg base "has_form" 2 ["question", "depth"] spHasForm := by
  refine D.df (D.F.ok scHasForm (spD_len fun ds r ⟨_, e, _⟩ => by rw [e]; rfl) fun cdv A outer s H vs Q E hr h => ?_)
  obtain ⟨Hd, ds, r, s0, hv, ⟨q, rfl, hq, rfl⟩, k⟩ := h
  obtain ⟨v0, _, rfl, x0, hv⟩ := hv.cons_of
  obtain ⟨v1, _, rfl, x1, hv⟩ := hv.cons_of
  rw [hv.nil_of]
  refine ⟨_, (pss_cons (ps_if (PW.pt (pw_or (pt_cmpR op_eq (pe_callB (cr_lenK (K := K) rfl) (by rfl) T.mlen PySem.boot_len (pa_cons (pv 0) pa_nil)) pe_int (nomark _)) (pw_or1 (pt_cmpR op_gt (pv 1) (pe_gI (by rfl) T.mMOST_DEPTH) (nomark _))))) (pss_one (ps_ret pe_bl)) pss_nil) (pss_cons (ps_for PassesOwn.never rfl (pi_list (pv 0)) (pg_tupK (K := K) (n := 3) rfl rfl (pgs_cons (pg_name (i := 2) scHasForm.nd rfl (Or.inr rfl) (Or.inl rfl)) (pgs_cons (pg_name (i := 3) scHasForm.nd rfl (Or.inl rfl) (Or.inr rfl)) (pgs_cons (pg_name (i := 4) scHasForm.nd rfl (Or.inl rfl) (Or.inr rfl)) pgs_nil)))) (pss_cons (ps_if (PW.pt (pw_or (pt_cmpR (op_niK (K := K) rfl) (pv 2) (pe_tup (pa_cons pe_str (pa_cons pe_str pa_nil))) (by rfl)) (pw_or1 (PW.pt (pw_and (pt_cmpR (op_niK (K := K) rfl) (pv 3) (pe_tup (pa_cons pe_str (pa_cons pe_str pa_nil))) (by rfl)) (pw_and1 (pt_not (pt_val (pe_df D_is_name (hr.mono (by decide)) (by rfl) (pa_cons (pv 3) pa_nil)))))))))) (pss_one (ps_ret pe_bl)) pss_nil) (pss_one (ps_if (pt_not (pt_val (pe_callB (cr_all rfl) (by rfl) T.mall (by decide +kernel) (pa_cons (pe_lc (own := [("row", 5)]) rfl scHasForm.nd (pi_list (pv 4)) (blkOk_by (own := [("row", 5)]) (N := ["question", "depth", "axis", "test", "filters", "row"]) (sc := defScope sHasForm) (by decide +kernel)) (fun _ _ _ _ _ => (pg_name (i := 5) scHasForm.nd rfl (Or.inl rfl) (Or.inr rfl))) (fun _ _ _ _ _ => pts_nil) (fun _ _ _ _ _ => pe_no)) pa_nil)))) (pss_one (ps_ret pe_bl)) pss_nil)))) (pss_one (ps_ret pe_bl)))), ?_⟩
  refine q_when (b := false) (.refl s0) ((et_or (et_test (ed_op (ed_cb (ea_cons (ed_var rfl x0) ea_nil) rc_len) ed_int rd_eqI)) fun _ => et_test (ed_op (ed_var rfl x1) ed_int rd_gt)).is ?_) (fun hb => Bool.noConfusion hb) fun _ H1 G1 g1 => ?_
  · rw [list_len]
    have e : ((q.length : Int) == 0) = false := beq_eq_false_iff_ne.mpr (by have := hq.1; omega)
    rw [e]
    rfl
  refine q_for G1 (ed_var rfl x0) (fun i σ Hd' H' => ∃ a b c d, σ = [some v0, some v1, a, b, c, d] ∧ Gr Hd H Hd' H') (fun Hd' H' G2 g2 => ⟨none, none, none, none, rfl, G2⟩)
    (fun Hd2 sd2 i d x σ Hd' H' hi sd sh xd ⟨a, b, c', e, hσ, G2⟩ => ?_) fun σ Hd' H' sd sh ⟨a, b, c', d, hσ, G2⟩ => ?_
  · obtain ⟨st, hst, rfl⟩ := map_inj_list hi
    subst hσ
    obtain ⟨p, u1, u2, u3, rfl, hp, z1, z2, z3⟩ := xd.tup3
    refine tg_3 hp H' sh _ ?_
    refine q_when (b := false) G2 ((et_or (et_test (ed_op (ed_var rfl z1) (ed_tup (ea_cons ed_str (ea_cons ed_str ea_nil))) (rd_niS (ns := ["child", "below"])))) fun _ =>
      et_and (et_test (ed_op (ed_var rfl z2) (ed_tup (ea_cons ed_str (ea_cons ed_str ea_nil))) (rd_niS (ns := ["*", "#"])))) fun hb => et_not (et_B (ed_call (ea_cons (ed_var rfl z2) ea_nil) ⟨st.2, rfl, fun e => absurd hb (by rw [e]; decide +kernel), fun e => absurd hb (by rw [e]; decide +kernel), rfl⟩))).is ?_) (fun hb => Bool.noConfusion hb) fun _ H3 G3 g3 => ?_
    · have e : decide (axS st.1 ∈ (["child", "below"] : List Str)) = true := by cases st.1 <;> decide +kernel
      rw [e]
      simp
    refine s_when (b := false) G3 ((et_not (et_B (ed_cb (ea_cons (ed_lcMap (α := Unit) (fun _ => .none) (fun _ => .bool true) [] (ed_var rfl z3) (by decide) fun _ _ _ d hd => absurd hd (by simp)) ea_nil) (rc_all (bs := []))))).is rfl) (fun hb => Bool.noConfusion hb) fun _ H4 G4 g4 => ?_
    exact ⟨Hd', sd, G4.s, _, _, _, _, rfl, G4⟩
  · subst hσ
    exact s_ret G2 ed_bl k
theorem ok_is_proper (D : Fd K mg "is_proper" sIsProper ["question"] f fd) (T : Tx mg) (D_has_form : Df P w K mg base "has_form" 2 ["question", "depth"] spHasForm) (D_step_count : Df P w K mg base "step_count" 1 ["question"] spStepCount) :
    Df P w K mg base "is_proper" 3 ["question"] spIsProper := by
  refine D.df (D.F.ok scIsProper (spD_len fun ds r ⟨_, e, _⟩ => by rw [e]; rfl) fun cdv A outer s H vs Q E hr h => ?_)
  obtain ⟨Hd, ds, r, s0, hv, ⟨q, rfl, hq, rfl⟩, k⟩ := h
  obtain ⟨v0, _, rfl, x0, hv⟩ := hv.cons_of
  rw [hv.nil_of]
  refine ⟨_, (pss_one (ps_ret (pe_and (pe_df D_has_form (hr.mono (by decide)) (by rfl) (pa_cons (pv 0) (pa_cons pe_int pa_nil))) (pe_one (pe_cmpR op_le (pe_df D_step_count (hr.mono (by decide)) (by rfl) (pa_cons (pv 0) pa_nil)) (pe_gI (by rfl) T.mMOST_STEPS) (nomark _)))))), ?_⟩
  refine s_ret (.refl s0) ((ed_andV (ed_call (ea_cons (ed_var rfl x0) (ea_cons ed_int ea_nil)) ⟨q, rfl, hq, rfl⟩) fun _ => ed_op (ed_call (ea_cons (ed_var rfl x0) ea_nil) ⟨q, rfl, hq, rfl⟩) ed_int rd_le).is ?_) k
  have e : decide ((q.length : Int) ≤ 12) = true := decide_eq_true (by have := hq.2; omega)
  rw [e]
  rfl
theorem ok_check (D : Fd K mg "check" sCheck ["questions"] f fd) (T : Tx mg) (D_is_proper : Df P w K mg base "is_proper" 3 ["question"] spIsProper) : Df P w K mg base "check" 4 ["questions"] spCheck := by
  refine D.df (D.F.ok scCheck (spD_len fun ds r ⟨_, e, _⟩ => by rw [e]; rfl) fun cdv A outer s H vs Q E hr h => ?_)
  obtain ⟨Hd, ds, r, s0, hv, ⟨qs, rfl, hq, rfl⟩, k⟩ := h
  obtain ⟨v0, _, rfl, x0, hv⟩ := hv.cons_of
  rw [hv.nil_of]
  refine ⟨_, (pss_one (ps_for PassesOwn.never rfl (pi_enum (by rfl) T.menumerate (pa_cons (pv 0) pa_nil)) (pg_tupK (K := K) (n := 2) rfl rfl (pgs_cons (pg_name (i := 1) scCheck.nd rfl (Or.inl rfl) (Or.inr rfl)) (pgs_cons (pg_name (i := 2) scCheck.nd rfl (Or.inl rfl) (Or.inr rfl)) pgs_nil))) (pss_one (ps_if (PW.pt (pw_or (pt_not (pt_val (pe_df D_is_proper (hr.mono (by decide)) (by rfl) (pa_cons (pv 2) pa_nil)))) (pw_or1 (pt_val (pe_callB (cr_any rfl) (by rfl) T.many (by decide +kernel) (pa_cons (pe_lc (own := [("axis", 3), ("test", 4), ("filters", 5)]) rfl scCheck.nd (pi_list (pv 2)) (blkOk_by (own := [("axis", 3), ("test", 4), ("filters", 5)]) (N := ["questions", "number", "question", "axis", "test", "filters"]) (sc := defScope sCheck) (by decide +kernel)) (fun _ _ _ _ _ => (pg_tupK (K := K) (n := 3) rfl rfl (pgs_cons (pg_name (i := 3) scCheck.nd rfl (Or.inl rfl) (Or.inr rfl)) (pgs_cons (pg_name (i := 4) scCheck.nd rfl (Or.inl rfl) (Or.inr rfl)) (pgs_cons (pg_name (i := 5) scCheck.nd rfl (Or.inl rfl) (Or.inr rfl)) pgs_nil))))) (fun _ _ _ _ _ => pts_nil) (fun _ _ _ _ _ => (pe_cmpR op_gt (pe_callB (cr_lenK (K := K) rfl) (by rfl) T.mlen PySem.boot_len (pa_cons (pv 5) pa_nil)) pe_int (nomark _)))) pa_nil)))))) (pss_one ps_never) pss_nil)))), ?_⟩
  refine s_forE (.refl s0) (ea_cons (ed_var rfl x0) ea_nil) (fun i σ Hd' H' => ∃ a b c d e, σ = [some v0, a, b, c, d, e] ∧ Gr Hd H Hd' H') (fun Hd' H' G2 g2 => ⟨none, none, none, none, none, rfl, G2⟩)
    (fun Hd1 sd1 i d x σ Hd' H' Hd2 H2 hi sd sh gn xd ⟨a, b, c', e, e', hσ, G2⟩ => ?_) fun σ Hd' H' sd sh ⟨a, b, c', d, e', hσ, G2⟩ => ?_
  · obtain ⟨q, hst, rfl⟩ := map_inj_list hi
    have gq := hq q (List.mem_of_getElem? hst)
    subst hσ
    obtain ⟨p, u1, u2, rfl, hp, z1, z2⟩ := xd.tup2
    refine tg_2 hp H2 gn.s _ ?_
    refine s_when (b := false) (G2.trans gn) ((et_or (et_not (et_B (ed_call (ea_cons (ed_var rfl z2) ea_nil) ⟨q, rfl, gq, rfl⟩))) fun _ =>
      et_B (ed_cb (ea_cons ((ed_lcMap stepD (fun _ => .bool false) q (ed_var rfl z2) (by have := gq.2; omega) fun Hd3 H3 u st hs y hy => ?_).is (e := .list ((q.map fun _ => false).map PyData.bool)) (by rw [List.map_map]; rfl)) ea_nil) rc_any)).is ?_) (fun hb => Bool.noConfusion hb) fun _ H4 G4 g4 => ?_
    · obtain ⟨p3, w1, w2, w3, rfl, hp3, y1, y2, y3⟩ := hy.tup3
      exact ⟨_, tg_3 hp3, rfl, (ed_op (ed_cb (ea_cons (ed_var rfl y3) ea_nil) rc_len) ed_int rd_gt).is rfl⟩
    · have e : (q.map fun _ => false).any id = false := by
        rw [List.any_map]
        exact List.any_eq_false.mpr fun _ _ => Bool.false_ne_true
      rw [e]
      rfl
    · exact ⟨Hd2, sd.trans gn.d, G4.s, _, _, _, _, _, rfl, G4⟩
  · exact k _ _ _ G2 .non
theorem takes_nat (q : Qn) (c : List Sy) : decide (((q.map stepD).length : Int) ∈ natsV (places q c)) = takes q c := by
  rw [list_len, mem_nats]
  rfl
theorem places_len (q : Qn) (c : List Sy) (h : q.length ≤ 4) : (places q c).length ≤ 30 := by
  rcases List.eq_nil_or_concat c with e | ⟨y, m, e⟩
  · subst e
    show 1 ≤ 30
    decide
  · rw [e, List.concat_eq_append, places_snoc]
    have := next_len q (places q y) m
    omega
theorem places_take {q : Qn} {c : List Sy} {i : Nat} {m : Sy} (h : c[i]? = some m) : places q (c.take (i + 1)) = next q (places q (c.take i)) m := by
  rw [take_succ_get h, places_snoc]
theorem chain_get {c : List Sy} {i : Nat} {d : PyData} (h : ((c.map Sy.s).map PyData.str)[i]? = some d) : ∃ m, c[i]? = some m ∧ d = .str m.s := by
  rw [List.map_map] at h
  exact map_inj_list h
theorem ok_law_takes (D : Fd K mg "_law_takes" sLawTakes ["_law_question", "_law_chain"] f fd) (T : Tx mg) (D__law_next : Df P w K mg base "_law_next" 1 ["_law_question", "_law_places", "_law_member"] spNext) : Df P w K mg base "_law_takes" 2 ["_law_question", "_law_chain"] spTakes := by
  refine D.df (D.F.ok scLawTakes (spD_len fun ds r ⟨_, _, e, _⟩ => by rw [e]; rfl) fun cdv A outer s H vs Q E hr h => ?_)
  obtain ⟨Hd, ds, r, s0, hv, ⟨q, c, rfl, hq, rfl⟩, k⟩ := h
  obtain ⟨v0, _, rfl, x0, hv⟩ := hv.cons_of
  obtain ⟨v1, _, rfl, x1, hv⟩ := hv.cons_of
  rw [hv.nil_of]
  refine ⟨_, (pss_cons (ps_set (i := 2) scLawTakes.nd rfl (Or.inl rfl) (pe_lst (pa_cons pe_int pa_nil))) (pss_cons (ps_for PassesOwn.never rfl (pi_list (pv 1)) (pg_name (i := 3) scLawTakes.nd rfl (Or.inl rfl) (Or.inr rfl)) (pss_one (ps_set (i := 2) scLawTakes.nd rfl (Or.inl rfl) (pe_df D__law_next (hr.mono (by decide)) (by rfl) (pa_cons (pv 0) (pa_cons (pv 2) (pa_cons (pv 3) pa_nil))))))) (pss_one (ps_ret (pe_cmpR (op_inK (K := K) rfl) (pe_callB (cr_lenK (K := K) rfl) (by rfl) T.mlen PySem.boot_len (pa_cons (pv 0) pa_nil)) (pv 2) (by rfl)))))), ?_⟩
  refine q_asg (d := natsD [0]) (.refl s0) (ed_lst (ea_cons ed_int ea_nil)) fun v2 Hd1 H1 G1 g1 x2 => ?_
  refine q_for G1 (ed_var rfl (x1.mono g1.d)) (fun i σ Hd' H' => ∃ u a, σ = [some v0, some v1, some u, a] ∧ Gr Hd H Hd' H' ∧ Dt Hd' u (natsD (places q (c.take i)))) (fun Hd' H' G2 g2 => ⟨v2, none, rfl, G2, x2.mono g2.d⟩)
    (fun Hd2 sd2 i d x σ Hd' H' hi sd sh xd ⟨u, a, hσ, G2, xu⟩ => ?_) fun σ Hd' H' sd sh ⟨u, a, hσ, G2, xu⟩ => ?_
  · obtain ⟨m, hm, rfl⟩ := chain_get hi
    subst hσ
    refine s_asg G2 (ed_call (ea_cons (ed_var rfl (x0.mono G2.d)) (ea_cons (ed_var rfl xu) (ea_cons (ed_var rfl xd) ea_nil))) ⟨q, _, m, rfl, hq.2, places_len q _ hq.2, rfl⟩) fun u' Hd3 H3 G3 g3 x3 => ?_
    refine ⟨Hd3, sd.trans g3.d, G3.s, u', _, rfl, G3, ?_⟩
    rw [places_take hm]
    exact x3
  · subst hσ
    have e : c.take ((c.map Sy.s).map PyData.str).length = c := by rw [List.length_map, List.length_map]; exact List.take_length
    rw [e] at xu
    exact s_ret G2 ((ed_op (ed_cb (ea_cons (ed_var rfl (x0.mono G2.d)) ea_nil) rc_len) (ed_var rfl xu) rd_inI).is (congrArg PyData.bool (takes_nat q c))) k
theorem ok_takes (D : Fd K mg "takes" sTakes ["question", "chain"] f fd) (T : Tx mg) (D_check : Df P w K mg base "check" 4 ["questions"] spCheck) (D_moved : Df P w K mg base "moved" 2 ["question", "places", "member"] spNext) : Df P w K mg base "takes" 5 ["question", "chain"] spTakes := by
  refine D.df (D.F.ok scTakes (spD_len fun ds r ⟨_, _, e, _⟩ => by rw [e]; rfl) fun cdv A outer s H vs Q E hr h => ?_)
  obtain ⟨Hd, ds, r, s0, hv, ⟨q, c, rfl, hq, rfl⟩, k⟩ := h
  obtain ⟨v0, _, rfl, x0, hv⟩ := hv.cons_of
  obtain ⟨v1, _, rfl, x1, hv⟩ := hv.cons_of
  rw [hv.nil_of]
  refine ⟨_, (pss_cons (ps_expr (pe_df D_check (hr.mono (by decide)) (by rfl) (pa_cons (pe_lst (pa_cons (pv 0) pa_nil)) pa_nil))) (pss_cons (ps_set (i := 2) scTakes.nd rfl (Or.inl rfl) (pe_lst (pa_cons pe_int pa_nil))) (pss_cons (ps_for PassesOwn.never rfl (pi_list (pv 1)) (pg_name (i := 3) scTakes.nd rfl (Or.inl rfl) (Or.inr rfl)) (pss_one (ps_set (i := 2) scTakes.nd rfl (Or.inl rfl) (pe_df D_moved (hr.mono (by decide)) (by rfl) (pa_cons (pv 0) (pa_cons (pv 2) (pa_cons (pv 3) pa_nil))))))) (pss_one (ps_ret (pe_cmpR (op_inK (K := K) rfl) (pe_callB (cr_lenK (K := K) rfl) (by rfl) T.mlen PySem.boot_len (pa_cons (pv 0) pa_nil)) (pv 2) (by rfl))))))), ?_⟩
  refine q_drop (.refl s0) (ed_call (ea_cons (ed_lst (ea_cons (ed_var rfl x0) ea_nil)) ea_nil) ⟨[q], rfl, fun z hz => by rw [List.mem_singleton.mp hz]; exact hq, rfl⟩) fun H0 G0 g0 => ?_
  refine q_asg (d := natsD [0]) G0 (ed_lst (ea_cons ed_int ea_nil)) fun v2 Hd1 H1 G1 g1 x2 => ?_
  refine q_for G1 (ed_var rfl (x1.mono g1.d)) (fun i σ Hd' H' => ∃ u a, σ = [some v0, some v1, some u, a] ∧ Gr Hd H Hd' H' ∧ Dt Hd' u (natsD (places q (c.take i)))) (fun Hd' H' G2 g2 => ⟨v2, none, rfl, G2, x2.mono g2.d⟩)
    (fun Hd2 sd2 i d x σ Hd' H' hi sd sh xd ⟨u, a, hσ, G2, xu⟩ => ?_) fun σ Hd' H' sd sh ⟨u, a, hσ, G2, xu⟩ => ?_
  · obtain ⟨m, hm, rfl⟩ := chain_get hi
    subst hσ
    refine s_asg G2 (ed_call (ea_cons (ed_var rfl (x0.mono G2.d)) (ea_cons (ed_var rfl xu) (ea_cons (ed_var rfl xd) ea_nil))) ⟨q, _, m, rfl, hq.2, places_len q _ hq.2, rfl⟩) fun u' Hd3 H3 G3 g3 x3 => ?_
    refine ⟨Hd3, sd.trans g3.d, G3.s, u', _, rfl, G3, ?_⟩
    rw [places_take hm]
    exact x3
  · subst hσ
    have e : c.take ((c.map Sy.s).map PyData.str).length = c := by rw [List.length_map, List.length_map]; exact List.take_length
    rw [e] at xu
    exact s_ret G2 ((ed_op (ed_cb (ea_cons (ed_var rfl (x0.mono G2.d)) ea_nil) rc_len) (ed_var rfl xu) rd_inI).is (congrArg PyData.bool (takes_nat q c))) k
end
end T45

/-! The members for two questions: the law's, the program's. -/
namespace T45
open PySem PySem.Spec PyProof.Rows L2
abbrev sOtherName : Stmt := top 18
theorem scOtherName : FnScope ["known", "names", "name", "letter"] ["known"] (defScope sOtherName) := ⟨rfl, rfl, rfl, by decide +kernel, rfl, by decide +kernel, by decide +kernel⟩
abbrev sMembers : Stmt := top 19
theorem scMembers : FnScope ["first", "second", "known", "axis", "test", "filters"] ["first", "second"] (defScope sMembers) := ⟨rfl, rfl, rfl, by decide +kernel, rfl, by decide +kernel, by decide +kernel⟩
abbrev sLawMembers : Stmt := top 35
theorem scLawMembers : FnScope ["_law_first", "_law_second", "_law_known", "_law_axis", "_law_test", "_law_filters", "_law_other", "_law_name"] ["_law_first", "_law_second"] (defScope sLawMembers) := ⟨rfl, rfl, rfl, by decide +kernel, rfl, by decide +kernel, by decide +kernel⟩
section
variable {K : PySem.W.Frag} {σ : L2.St} {Hd H Hd0 H0 : Hp} {g g1 : TG}
/-- [e for x in [one thing] for c in a text] -/
theorem ed_lc2S {tl tl1 te : TE} {vs vs1 : List Nat} {z : Str} {d0 : PyData} (h' : Nat → PyData) (h : Ed tl σ H Hd (.list [d0])) (hz : z.cps.toList.length < 1000000)
    (turn : ∀ Hd1 H1, Up Hd H Hd1 H1 → ∀ x, Dt Hd1 x d0 → ∃ σ2, Tg g (wipe σ vs) Hd1 x σ2 ∧ wipe σ2 vs = wipe σ vs ∧ Ed tl1 σ2 H1 Hd1 (.str z) ∧
      ∀ Hd2 H2, ∀ c ∈ z.cps.toList, Same Hd1 Hd2 → Same Hd2 H2 → ∃ σ3, Tg g1 (wipe σ2 vs1) Hd2 (.str ⟨#[c]⟩) σ3 ∧ wipe σ3 vs1 = wipe σ2 vs1 ∧ Ed te σ3 H2 Hd2 (h' c)) :
    Ed (tLc2 (iList K tl) g tYes (iStr tl1) g1 tYes te vs vs1) σ H Hd (.list (z.cps.toList.map h')) := fun Hd0 H0 a0 Q q =>
  h Hd0 H0 a0 _ fun v Hd1 H1 gg1 x1 => by
    obtain ⟨a, zs, rfl, ha, hx⟩ := x1.lst_of
    obtain ⟨u, zs', rfl, hu, hx⟩ := hx.cons_of
    rw [hx.nil_of] at ha
    refine ⟨a, rfl, ⟨[u], SqL.of (gg1.s _ _ ha)⟩, fun Dl hD => ⟨fun i m H' => ∃ Hd' ys, Gr Hd1 H1 Hd' H' ∧ Hd' Dl = none ∧ H' Dl = some (.lst ys) ∧ ((i = 0 ∧ m = 1 ∧ ys = []) ∨ (i = 1 ∧ m = 0 ∧ DtL Hd' ys (z.cps.toList.map h'))),
      ⟨1, Hd1, [], .newM gg1.s hD, gg1.s.free hD, upd_same, .inl ⟨rfl, rfl, rfl⟩⟩, fun i m H' ⟨Hd', ys, g2, n1, n2, st⟩ => ?_⟩⟩
    have sq : SqL K H' a [u] := SqL.of (g2.s _ _ (g2.d _ _ ha))
    rcases st with ⟨rfl, rfl, rfl⟩ | ⟨rfl, rfl, hy⟩
    · refine .inr ⟨⟨[u], u, sq, rfl⟩, fun H'' => ∃ Hd' ys, Gr Hd1 H1 Hd' H'' ∧ Hd' Dl = none ∧ H'' Dl = some (.lst ys) ∧ DtL Hd' ys (z.cps.toList.map h'), fun H'' ⟨Hd3, ys, a1, a2, a3, a4⟩ => ⟨0, Nat.zero_lt_one, Hd3, ys, a1, a2, a3, .inr ⟨rfl, rfl, a4⟩⟩, fun x H'' yy => ?_⟩
      obtain ⟨eH, hx'⟩ := yy
      rw [eH]
      have ex : u = x := by simpa using hx' _ sq
      subst ex
      obtain ⟨σ2, t1, t2, t3, t4⟩ := turn Hd' H' ((a0.gr gg1).gr g2) u (hu.mono g2.d)
      refine t1 H' g2.s _ ⟨t2, ?_⟩
      unfold tYes
      dsimp only
      rw [if_pos rfl]
      refine t3 Hd' H' (.refl g2.s) _ fun y Hd3 H3 g3 y3 => ⟨z, y3.str_of, ?_⟩
      obtain ⟨m1, m2⟩ := g3.out n1 n2
      refine ⟨fun j k H5 => j + k = z.cps.size ∧ ∃ Hd5 ys, Gr Hd1 H1 Hd5 H5 ∧ Same Hd' Hd5 ∧ Hd5 Dl = none ∧ H5 Dl = some (.lst ys) ∧ DtL Hd5 ys ((z.cps.toList.take j).map h'),
        ⟨z.cps.size, Nat.zero_add _, Hd3, [], g2.trans g3, g3.d, m1, m2, by rw [List.take_zero]; exact .nil⟩, fun j k H5 ⟨hm, Hd5, ys, g5, d5, k1, k2, hy⟩ => ?_⟩
      cases k with
      | zero =>
        have e : z.cps.toList.take j = z.cps.toList := List.take_of_length_le (by rw [Array.length_toList]; omega)
        rw [e] at hy
        exact .inl ⟨by show z.cps.size ≤ j; omega, Hd5, ys, g5, k1, k2, hy⟩
      | succ k =>
        refine .inr ⟨by show j < z.cps.size; omega, fun H6 => ∃ Hd6 ys, Gr Hd1 H1 Hd6 H6 ∧ Same Hd' Hd6 ∧ Hd6 Dl = none ∧ H6 Dl = some (.lst ys) ∧ DtL Hd6 ys ((z.cps.toList.take (j + 1)).map h'), fun H6 p => ⟨k, Nat.lt_succ_self _, by omega, p⟩, fun y' H6 yy => ?_⟩
        obtain ⟨eH6, c, hc, rfl⟩ := yy
        rw [eH6]
        have e1 : z.cps.toList[j]? = some c := by rw [Array.getElem?_toList]; exact hc
        obtain ⟨σ3, r1, r2, r3⟩ := t4 Hd5 H5 c (List.mem_of_getElem? e1) d5 g5.s
        refine r1 H5 g5.s _ ⟨r2, ?_⟩
        dsimp only
        rw [if_pos rfl]
        refine r3 Hd5 H5 (.refl g5.s) _ fun w Hd7 H7 g7 w7 => ?_
        obtain ⟨l1, l2⟩ := g7.out k1 k2
        have hlen : ys.length < 1000000 := by
          have q := hy.length
          rw [List.length_map, List.length_take] at q
          omega
        refine ⟨ys, l2, Nat.lt_of_lt_of_le hlen (by decide), Hd7, ys ++ [w], (g5.trans g7).mut hD l1, d5.trans g7.d, l1, upd_same, ?_⟩
        rw [take_succ_get e1, List.map_append]
        exact (hy.mono g7.d).append (.one w7)
    · have g3 := g2.frz hD n1 n2
      exact .inl ⟨⟨[u], sq, Nat.le_refl _⟩, q _ _ _ (gg1.trans g3) (.lst upd_same (hy.mono (upd_same_new n1)))⟩
end

/-! ### texts in their order -/
def unS (z : Str) : Sy := if z = Sy.hash.s then .hash else if z = Sy.star.s then .star else if z = Sy.la.s then .la else if z = Sy.lb.s then .lb else .lc
theorem unS_s (s : Sy) : unS s.s = s := by
  unfold unS
  simp only [Sy.s_eq]
  cases s <;> decide
theorem rising_ix : ∀ {r : List Sy} {p : Sy}, PyProof.Rows.risingS p.s (r.map Sy.s) = true → (p :: r).Pairwise fun a b => a.ix ≤ b.ix
  | [], p, _ => by simp
  | x :: r, p, h => by
    have h : (!ltCps x.s.cps.toList p.s.cps.toList && PyProof.Rows.risingS x.s (r.map Sy.s)) = true := h
    rw [Bool.and_eq_true] at h
    have ih := rising_ix h.2
    have h1 : p.ix ≤ x.ix := by
      have q := h.1
      rw [ltCps_eq, Sy.cps, Sy.cps] at q
      have q : ¬ ([x.cp] < [p.cp]) := by simpa using q
      have q2 : ¬ x.cp < p.cp := fun z => q (List.Lex.rel z)
      rw [Sy.cp_ix] at q2
      omega
    refine List.pairwise_cons.mpr ⟨fun y hy => ?_, ih⟩
    rcases List.mem_cons.mp hy with e | hy
    · subst e
      exact h1
    · exact Nat.le_trans h1 ((List.pairwise_cons.mp ih).1 y hy)
theorem sorted_ix {l : List Sy} (h : PyProof.Rows.sortedS (l.map Sy.s) = true) : l.Pairwise fun a b => a.ix ≤ b.ix := by
  cases l with
  | nil => exact .nil
  | cons p r => exact rising_ix h
theorem ix_ext : ∀ {l l' : List Sy}, (l.Pairwise fun a b => a.ix < b.ix) → (l'.Pairwise fun a b => a.ix < b.ix) → (∀ k, k ∈ l ↔ k ∈ l') → l = l'
  | [], [], _, _, _ => rfl
  | [], y :: r', _, _, h => absurd ((h y).mpr List.mem_cons_self) (by simp)
  | x :: r, [], _, _, h => absurd ((h x).mp List.mem_cons_self) (by simp)
  | x :: r, y :: r', a, b, h => by
    obtain ⟨a1, a2⟩ := List.pairwise_cons.mp a
    obtain ⟨b1, b2⟩ := List.pairwise_cons.mp b
    have e : x = y := by
      rcases List.mem_cons.mp ((h x).mp List.mem_cons_self) with e | m
      · exact e
      · rcases List.mem_cons.mp ((h y).mpr List.mem_cons_self) with e | m'
        · exact e.symm
        · have := b1 x m
          have := a1 y m'
          omega
    subst e
    rw [ix_ext a2 b2 fun k => ?_]
    constructor
    · intro m
      rcases List.mem_cons.mp ((h k).mp (List.mem_cons_of_mem _ m)) with e | m'
      · subst e
        exact absurd (a1 _ m) (Nat.lt_irrefl _)
      · exact m'
    · intro m
      rcases List.mem_cons.mp ((h k).mpr (List.mem_cons_of_mem _ m)) with e | m'
      · subst e
        exact absurd (b1 _ m) (Nat.lt_irrefl _)
      · exact m'
/-- the sorted texts are those of the rising list with the same members -/
theorem sorted_is {ys : List Str} {xs ms : List Sy} (p : ys.Perm (xs.map Sy.s)) (so : PyProof.Rows.sortedS ys = true) (nd : xs.Nodup) (hm : ms.Pairwise fun a b => a.ix < b.ix) (mem : ∀ s, s ∈ ms ↔ s ∈ xs) : ys = ms.map Sy.s := by
  have pm : (ys.map unS).Perm xs := by
    have q := p.map unS
    rw [List.map_map] at q
    have e : xs.map (unS ∘ Sy.s) = xs := by
      have : (unS ∘ Sy.s) = id := funext unS_s
      rw [this, List.map_id]
    rw [e] at q
    exact q
  have e : ys = (ys.map unS).map Sy.s := by
    rw [List.map_map]
    have : ys.map (Sy.s ∘ unS) = ys.map id := List.map_congr_left fun y hy => by
      obtain ⟨s, _, rfl⟩ := List.mem_map.mp (p.mem_iff.mp hy)
      show (unS s.s).s = s.s
      rw [unS_s]
    rw [this, List.map_id]
  rw [e] at so
  rw [e]
  refine congrArg (List.map Sy.s) (ix_ext ?_ hm fun k => by rw [pm.mem_iff, mem])
  have w := sorted_ix so
  have nd' : (ys.map unS).Nodup := pm.nodup_iff.mpr nd
  exact (w.and nd').imp fun {a b} ⟨h1, h2⟩ => by
    rcases Nat.lt_or_ge a.ix b.ix with h | h
    · exact h
    · exact absurd (Sy.ix_inj (Nat.le_antisymm h1 h)) h2

/-! ### what is known -/
def Plain (q : Qn) : Prop := ∀ s ∈ q, s.2 ≠ Sy.lc
/-- the names among tests, each once -/
structure Kn (ts ks : List Sy) : Prop where
  nd : ks.Nodup
  mem : ∀ s, s ∈ ks ↔ s ∈ ts ∧ s ≠ .star ∧ s ≠ .hash
theorem Kn.nil : Kn [] [] := ⟨.nil, fun s => by simp⟩
theorem Kn.same {ts ks : List Sy} {t : Sy} (h : Kn ts ks) (ht : t = .star ∨ t = .hash ∨ t ∈ ks) : Kn (ts ++ [t]) ks := ⟨h.nd, fun s => by
  rw [h.mem, List.mem_append, List.mem_singleton]
  constructor
  · exact fun ⟨a, b⟩ => ⟨.inl a, b⟩
  · rintro ⟨a | a, b⟩
    · exact ⟨a, b⟩
    · subst a
      rcases ht with e | e | e
      · exact absurd e b.1
      · exact absurd e b.2
      · exact (h.mem s).mp e⟩
theorem Kn.more {ts ks ks' : List Sy} {t : Sy} (h : Kn ts ks) (h1 : t ≠ .star) (h2 : t ≠ .hash) (h3 : t ∉ ks) (hp : ks'.Perm (t :: ks)) : Kn (ts ++ [t]) ks' := ⟨hp.nodup_iff.mpr (List.nodup_cons.mpr ⟨h3, h.nd⟩), fun s => by
  rw [hp.mem_iff, List.mem_cons, h.mem, List.mem_append, List.mem_singleton]
  constructor
  · rintro (e | ⟨a, b⟩)
    · subst e
      exact ⟨.inr rfl, h1, h2⟩
    · exact ⟨.inl a, b⟩
  · rintro ⟨a | a, b⟩
    · exact .inr ⟨a, b⟩
    · exact .inl a⟩
def otherOf (ks : List Sy) : Sy := if Sy.la ∈ ks then (if Sy.lb ∈ ks then .lc else .lb) else .la
theorem Kn.ab {q1 q2 : Qn} {ks : List Sy} (h : Kn ((q1 ++ q2).map (·.2)) ks) (p1 : Plain q1) (p2 : Plain q2) : ∀ s ∈ ks, s = .la ∨ s = .lb := fun s hs => by
  obtain ⟨a, b, c⟩ := (h.mem s).mp hs
  obtain ⟨x, hx, rfl⟩ := List.mem_map.mp a
  have nc : x.2 ≠ .lc := (List.mem_append.mp hx).elim (p1 x) (p2 x)
  generalize x.2 = t at b c nc
  cases t
  · exact absurd rfl c
  · exact absurd rfl b
  · exact .inl rfl
  · exact .inr rfl
  · exact absurd rfl nc
theorem Kn.la {q1 q2 : Qn} {ks : List Sy} (h : Kn ((q1 ++ q2).map (·.2)) ks) : (Sy.la ∈ ks) = (Sy.la ∈ (q1 ++ q2).map (·.2)) := propext ⟨fun a => ((h.mem _).mp a).1, fun a => (h.mem _).mpr ⟨a, by decide, by decide⟩⟩
theorem Kn.lb {q1 q2 : Qn} {ks : List Sy} (h : Kn ((q1 ++ q2).map (·.2)) ks) : (Sy.lb ∈ ks) = (Sy.lb ∈ (q1 ++ q2).map (·.2)) := propext ⟨fun a => ((h.mem _).mp a).1, fun a => (h.mem _).mpr ⟨a, by decide, by decide⟩⟩
/-- the known ones, the other one and # are the members -/
theorem Kn.mems {q1 q2 : Qn} {ks : List Sy} (h : Kn ((q1 ++ q2).map (·.2)) ks) (p1 : Plain q1) (p2 : Plain q2) : (ks ++ [otherOf ks, .hash]).Nodup ∧ ∀ s, s ∈ mems q1 q2 ↔ s ∈ ks ++ [otherOf ks, .hash] := by
  have ab := h.ab p1 p2
  have nh : Sy.hash ∉ ks := fun z => by rcases ab _ z with e | e <;> cases e
  have no : otherOf ks ∉ ks := fun z => by
    unfold otherOf at z
    split at z
    · split at z
      · rcases ab _ z with e | e <;> cases e
      · rename_i _ k
        exact k z
    · rename_i k
      exact k z
  have noh : otherOf ks ≠ .hash := by
    unfold otherOf
    split
    · split <;> decide
    · decide
  refine ⟨List.nodup_append.mpr ⟨h.nd, by simp [noh], fun x hx y hy => ?_⟩, fun s => ?_⟩
  · intro e
    subst e
    rcases List.mem_cons.mp hy with e | hy
    · exact no (e ▸ hx)
    · exact nh (List.mem_singleton.mp hy ▸ hx)
  · have mk : ∀ s, s ∈ ks ↔ (s = .la ∧ Sy.la ∈ ks) ∨ (s = .lb ∧ Sy.lb ∈ ks) := fun s => ⟨fun z => by
      rcases ab s z with e | e
      · subst e; exact .inl ⟨rfl, z⟩
      · subst e; exact .inr ⟨rfl, z⟩, fun z => by
      rcases z with ⟨e, z⟩ | ⟨e, z⟩ <;> (subst e; exact z)⟩
    rw [List.mem_append, mk s]
    unfold T45.mems otherOf
    simp only [← h.la, ← h.lb]
    by_cases ha : Sy.la ∈ ks <;> by_cases hb : Sy.lb ∈ ks <;> simp only [ha, hb, and_self, and_true, and_false, or_true, or_false, true_or, false_or, if_true, if_false, false_and, true_and] <;> cases s <;> decide
def letters : List Nat := [97, 98, 99, 100, 101, 102, 103, 104, 105, 106, 107, 108, 109, 110, 111, 112, 113, 114, 115, 116, 117, 118, 119, 120, 121, 122]
theorem letters_are : ("abcdefghijklmnopqrstuvwxyz" : Str).cps.toList = letters := by decide +kernel
theorem one_is (s : Sy) : (⟨#[s.cp]⟩ : Str) = s.s := by cases s <;> decide +kernel
theorem other_is {ks : List Sy} (ab : ∀ s ∈ ks, s = .la ∨ s = .lb) {i c : Nat} (hc : letters[i]? = some c) (all : ∀ (j d : Nat), j < i → letters[j]? = some d → (⟨#[d]⟩ : Str) ∈ ks.map Sy.s) (out : (⟨#[c]⟩ : Str) ∉ ks.map Sy.s) : (⟨#[c]⟩ : Str) = (otherOf ks).s := by
  have mem : ∀ s : Sy, (⟨#[s.cp]⟩ : Str) ∈ ks.map Sy.s ↔ s ∈ ks := fun s => by
    rw [one_is, List.mem_map]
    exact ⟨fun ⟨t, ht, e⟩ => Sy.s_inj e ▸ ht, fun h => ⟨s, h, rfl⟩⟩
  rcases Nat.lt_or_ge i 3 with h3 | h3
  · rcases (by omega : i = 0 ∨ i = 1 ∨ i = 2) with e | e | e
    · subst e
      cases hc
      have o : Sy.la ∉ ks := fun z => out ((mem .la).mpr z)
      unfold otherOf
      rw [if_neg o]
      exact one_is .la
    · subst e
      cases hc
      have o : Sy.lb ∉ ks := fun z => out ((mem .lb).mpr z)
      have a : Sy.la ∈ ks := (mem .la).mp (all 0 97 (by decide) rfl)
      unfold otherOf
      rw [if_pos a, if_neg o]
      exact one_is .lb
    · subst e
      cases hc
      have a : Sy.la ∈ ks := (mem .la).mp (all 0 97 (by decide) rfl)
      have b : Sy.lb ∈ ks := (mem .lb).mp (all 1 98 (by decide) rfl)
      unfold otherOf
      rw [if_pos a, if_pos b]
      exact one_is .lc
  · exfalso
    have z : Sy.lc ∈ ks := (mem .lc).mp (all 2 99 (by omega) rfl)
    rcases ab _ z with e | e <;> cases e

/-! ### sorted lists of texts -/
section
variable {K : PySem.W.Frag} {w : World} {σ : L2.St} {Hd H : Hp} {g : TG} {tt : TT}
theorem rc_sortedS {xs zs : List Str} (h64 : xs.length < 64) (hz : ∀ ys, ys.Perm xs → PyProof.Rows.sortedS ys = true → ys = zs) : Rc (rSortedS K) [.list (xs.map PyData.str)] (.list (zs.map PyData.str)) := fun Hd1 H1 b vs hx Q q => by
  obtain ⟨v, ws, rfl, h1, h2⟩ := hx.cons_of
  rw [h2.nil_of]
  obtain ⟨p, ys, rfl, h3, h4⟩ := h1.lst_of
  have e := h4.strs
  subst e
  refine ⟨p, xs, rfl, SqL.of (b _ _ h3), h64, fun ys l pm so hl => ?_⟩
  rw [hz ys pm so]
  have g : Gr Hd1 H1 (upd Hd1 l (.lst (zs.map V.str))) (upd H1 l (.lst (zs.map V.str))) := .new b hl
  exact q _ _ _ g (.lst upd_same (.of_strs _))
def gath {α : Type} (f : α → Option Str) (L : List Str) (xs : List α) : List Str := xs.foldl (fun L d => match f d with
  | some c => if c ∈ L then L else c :: L
  | none => L) L
theorem gath_len {α : Type} (f : α → Option Str) : ∀ (xs : List α) (L : List Str), (gath f L xs).length ≤ L.length + xs.length
  | [], L => Nat.le_refl _
  | x :: xs, L => by
    have ih := gath_len f xs (match f x with
      | some c => if c ∈ L then L else c :: L
      | none => L)
    have h : (match f x with
      | some c => if c ∈ L then L else c :: L
      | none => L).length ≤ L.length + 1 := by
      cases f x with
      | none => exact Nat.le_succ _
      | some c =>
        dsimp only
        split
        · exact Nat.le_succ _
        · exact Nat.le_refl _
    show (gath f _ xs).length ≤ L.length + (xs.length + 1)
    exact Nat.le_trans ih (by omega)
theorem gath_snoc {α : Type} (f : α → Option Str) (L : List Str) (xs : List α) (x : α) : gath f L (xs ++ [x]) = match f x with
    | some c => if c ∈ gath f L xs then gath f L xs else c :: gath f L xs
    | none => gath f L xs := by
  unfold gath
  rw [List.foldl_append]
  rfl
/-- sorted({e for x in a list if ..}), texts -/
theorem ed_sortTx {α : Type} {tl te : TE} {vs : List Nat} (enc : α → PyData) (f : α → Option Str) (xs : List α) (zs : List Str) (h : Ed tl σ H Hd (.list (xs.map enc))) (hz : xs.length < 63)
    (turn : ∀ Hd1 H1, Up Hd H Hd1 H1 → ∀ d ∈ xs, ∀ x, Dt Hd1 x (enc d) → ∃ σ2, Tg g (wipe σ vs) Hd1 x σ2 ∧ wipe σ2 vs = wipe σ vs ∧ Et tt σ2 H1 Hd1 (f d).isSome ∧ ∀ r, f d = some r → Ed te σ2 H1 Hd1 (.str r))
    (fin : ∀ ys, ys.Perm (gath f [] xs) → PyProof.Rows.sortedS ys = true → ys = zs) : Ed (tCB (rSortTx w) (tCons (tScT w (iList K tl) g tt te vs) tNil)) σ H Hd (.list (zs.map PyData.str)) := fun Hd0 H0 a0 Q q =>
  h Hd0 H0 a0 _ fun v Hd1 H1 g1 x1 => by
    obtain ⟨a, vs', rfl, ha, hx⟩ := x1.lst_of
    refine ⟨a, rfl, ⟨vs', SqL.of (g1.s _ _ ha)⟩, fun Dl hD => sc_list (w := w) (K := K) (a := a) (xs := vs') (fun i H' => ∃ Hd', Gr Hd1 H1 Hd' H' ∧ Hd' Dl = none ∧ H' Dl = some (TxO w Dl (gath f [] (xs.take i))))
      ⟨Hd1, .newM g1.s hD, g1.s.free hD, by rw [List.take_zero]; exact upd_same⟩ (fun i H' _ ⟨Hd', g2, _⟩ => SqL.of (g2.s _ _ (g2.d _ _ ha))) (fun i x H' hi ⟨Hd', g2, n1, n2⟩ => ?_) fun H' ⟨Hd', g2, n1, n2⟩ => ?_⟩
    · obtain ⟨d0, e0, e2⟩ := hx.getV hi
      obtain ⟨d, e1, rfl⟩ := map_inj_list e0
      obtain ⟨σ2, t1, t2, t3, t4⟩ := turn Hd' H' ((a0.gr g1).gr g2) d (List.mem_of_getElem? e1) x (e2.mono g2.d)
      refine t1 H' g2.s _ ⟨t2, t3 Hd' H' (.refl g2.s) _ fun Hd3 H3 g3 => ?_⟩
      obtain ⟨m1, m2⟩ := g3.out n1 n2
      cases hf : f d with
      | none =>
        show ∃ Hd', Gr Hd1 H1 Hd' H3 ∧ Hd' Dl = none ∧ H3 Dl = some (TxO w Dl (gath f [] (xs.take (i + 1))))
        refine ⟨Hd3, g2.trans g3, m1, ?_⟩
        rw [take_succ_get e1, gath_snoc, hf]
        exact m2
      | some r =>
        refine t4 r hf Hd3 H3 g3.up _ fun y Hd4 H4 g4 y4 => ?_
        obtain ⟨k1, k2⟩ := g4.out m1 m2
        have hlen := gath_len f (xs.take i) []
        rw [List.length_take, List.length_nil] at hlen
        refine ⟨r, _, y4.str_of, k2, Nat.lt_of_le_of_lt (by omega : _ ≤ 64) (by decide), Hd4, ((g2.trans g3).trans g4).mut hD k1, k1, ?_⟩
        rw [take_succ_get e1, gath_snoc, hf]
        exact upd_same
    · have e : xs.take vs'.length = xs := by rw [hx.length, List.length_map]; exact List.take_length
      rw [e] at n2
      have hlen := gath_len f xs []
      rw [List.length_nil] at hlen
      show rSortTx w [.ref Dl] H' Q
      refine ⟨Dl, _, rfl, n2, by omega, fun ys p pm so hp => ?_⟩
      rw [fin ys pm so]
      have g3 : Gr Hd' H' (upd Hd' p (.lst (zs.map V.str))) (upd H' p (.lst (zs.map V.str))) := .new g2.s hp
      exact q _ _ _ ((g1.trans g2).trans g3) (.lst upd_same (.of_strs _))
theorem rd_addS {i j : Str} (h : i.length + j.length ≤ sizeLine) : Rd2 (fun x y H Q => ∃ i j, x = .str i ∧ y = .str j ∧ i.length + j.length ≤ sizeLine ∧ Q (.str (i ++ j)) H) (.str i) (.str j) (.str (i ++ j)) := fun Hd1 H1 b x y hx hy Q q =>
  ⟨i, j, hx.str_of, hy.str_of, h, q _ Hd1 H1 (.refl b) (.str _)⟩
end
def testF (s : Bool × Sy) : Option Str := if s.2 = .star ∨ s.2 = .hash then none else some s.2.s
theorem mem_map_s {ks : List Sy} {s : Sy} : s.s ∈ ks.map Sy.s ↔ s ∈ ks := by
  rw [List.mem_map]
  exact ⟨fun ⟨t, ht, e⟩ => Sy.s_inj e ▸ ht, fun h => ⟨s, h, rfl⟩⟩
theorem gath_kn : ∀ (xs : Qn) (ts ks : List Sy), Kn ts ks → ∃ ks', gath testF (ks.map Sy.s) xs = ks'.map Sy.s ∧ Kn (ts ++ xs.map (·.2)) ks'
  | [], ts, ks, h => ⟨ks, rfl, by rw [List.map_nil, List.append_nil]; exact h⟩
  | x :: xs, ts, ks, h => by
    have go : ∀ ks1, Kn (ts ++ [x.2]) ks1 → (match testF x with
        | some c => if c ∈ ks.map Sy.s then ks.map Sy.s else c :: ks.map Sy.s
        | none => ks.map Sy.s) = ks1.map Sy.s → ∃ ks', gath testF (ks.map Sy.s) (x :: xs) = ks'.map Sy.s ∧ Kn (ts ++ (x :: xs).map (·.2)) ks' := fun ks1 k1 e => by
      obtain ⟨ks', a, b⟩ := gath_kn xs (ts ++ [x.2]) ks1 k1
      refine ⟨ks', ?_, ?_⟩
      · show gath testF (match testF x with
          | some c => if c ∈ ks.map Sy.s then ks.map Sy.s else c :: ks.map Sy.s
          | none => ks.map Sy.s) xs = _
        rw [e]
        exact a
      · rw [List.append_assoc] at b
        exact b
    by_cases hs : x.2 = .star ∨ x.2 = .hash
    · refine go ks (h.same (hs.elim .inl fun z => .inr (.inl z))) ?_
      unfold testF
      rw [if_pos hs]
    · by_cases hm : x.2 ∈ ks
      · refine go ks (h.same (.inr (.inr hm))) ?_
        unfold testF
        rw [if_neg hs]
        exact if_pos (mem_map_s.mpr hm)
      · refine go (x.2 :: ks) (h.more (fun z => hs (.inl z)) (fun z => hs (.inr z)) hm (.refl _)) ?_
        unfold testF
        rw [if_neg hs]
        exact if_neg fun z => hm (mem_map_s.mp z)
/-- the known ones in their order -/
def knownOf (q1 q2 : Qn) : List Sy := (if Sy.la ∈ (q1 ++ q2).map (·.2) then [Sy.la] else []) ++ (if Sy.lb ∈ (q1 ++ q2).map (·.2) then [Sy.lb] else [])
theorem knownOf_sorted (q1 q2 : Qn) : (knownOf q1 q2).Pairwise fun a b => a.ix < b.ix := by
  unfold knownOf
  split <;> split <;> decide
theorem knownOf_kn {q1 q2 : Qn} {ks : List Sy} (h : Kn ((q1 ++ q2).map (·.2)) ks) (p1 : Plain q1) (p2 : Plain q2) : (∀ s, s ∈ knownOf q1 q2 ↔ s ∈ ks) ∧ Kn ((q1 ++ q2).map (·.2)) (knownOf q1 q2) := by
  have ab := h.ab p1 p2
  have m : ∀ s, s ∈ knownOf q1 q2 ↔ s ∈ ks := fun s => by
    unfold knownOf
    simp only [← h.la, ← h.lb]
    constructor
    · intro z
      rcases List.mem_append.mp z with z | z
      · split at z
        · rw [List.mem_singleton.mp z]
          assumption
        · cases z
      · split at z
        · rw [List.mem_singleton.mp z]
          assumption
        · cases z
    · intro z
      rcases ab s z with e | e
      · subst e
        exact List.mem_append_left _ (by rw [if_pos z]; exact List.mem_singleton.mpr rfl)
      · subst e
        exact List.mem_append_right _ (by rw [if_pos z]; exact List.mem_singleton.mpr rfl)
  refine ⟨m, ⟨?_, fun s => by rw [m, h.mem]⟩⟩
  exact (knownOf_sorted q1 q2).imp fun {a b} hab e => by
    subst e
    exact absurd hab (Nat.lt_irrefl _)
theorem kn_len {q1 q2 : Qn} {ks : List Sy} (h : Kn ((q1 ++ q2).map (·.2)) ks) (p1 : Plain q1) (p2 : Plain q2) : ks.length ≤ 2 := by
  have := nodup_len ks [.la, .lb] h.nd fun x hx => by
    rcases h.ab p1 p2 x hx with e | e
    · subst e; decide
    · subst e; decide
  exact this
theorem other_law {ks : List Sy} (ab : ∀ s ∈ ks, s = .la ∨ s = .lb) : ((["a", "b", "c", "d"] : List Str).filter fun n => !decide (n ∈ ks.map Sy.s))[0]? = some (otherOf ks).s := by
  have ea : decide (("a" : Str) ∈ ks.map Sy.s) = decide (Sy.la ∈ ks) := decide_eq_decide.mpr (mem_map_s (s := .la))
  have eb : decide (("b" : Str) ∈ ks.map Sy.s) = decide (Sy.lb ∈ ks) := decide_eq_decide.mpr (mem_map_s (s := .lb))
  have ec : decide (("c" : Str) ∈ ks.map Sy.s) = false := decide_eq_false fun z => by rcases ab _ ((mem_map_s (s := .lc)).mp z) with e | e <;> cases e
  unfold otherOf
  rw [List.filter_cons, ea, List.filter_cons, eb, List.filter_cons, ec]
  by_cases ha : Sy.la ∈ ks
  · by_cases hb : Sy.lb ∈ ks
    · simp [ha, hb]
      rfl
    · simp [ha, hb]
      rfl
  · simp [ha]
    rfl
theorem snoc_map {ks : List Sy} {o : Sy} : ((ks.map Sy.s).map PyData.str ++ [.str o.s, .str "#"]) = ((ks ++ [o, .hash]).map Sy.s).map PyData.str := by
  rw [List.map_append, List.map_append]
  rfl
theorem mems_of {q1 q2 : Qn} {ks : List Sy} (h : Kn ((q1 ++ q2).map (·.2)) ks) (p1 : Plain q1) (p2 : Plain q2) : ∀ ys, ys.Perm ((ks ++ [otherOf ks, .hash]).map Sy.s) → PyProof.Rows.sortedS ys = true → ys = (mems q1 q2).map Sy.s := fun ys p so =>
  sorted_is p so (h.mems p1 p2).1 (mems_sorted q1 q2) (h.mems p1 p2).2
def spOther : Sp := spD fun ds r => ∃ ks : List Sy, ds = [chainD ks] ∧ (∀ s ∈ ks, s = .la ∨ s = .lb) ∧ r = .str (otherOf ks).s
def spMembers : Sp := spD fun ds r => ∃ q1 q2 : Qn, ds = [quesD q1, quesD q2] ∧ Good q1 ∧ Good q2 ∧ Plain q1 ∧ Plain q2 ∧ r = chainD (mems q1 q2)
section
variable {P : Program} {w : World} {K : PySem.W.Frag} {mg : Str → Option Value} {base : Heap} {f : Addr} {fd : FuncData}
theorem ok_law_members (D : Fd K mg "_law_members" sLawMembers ["_law_first", "_law_second"] f fd) (T : Tx mg) : Df P w K mg base "_law_members" 1 ["_law_first", "_law_second"] spMembers := by
  refine D.df (D.F.ok scLawMembers (spD_len fun ds r ⟨_, _, e, _⟩ => by rw [e]; rfl) fun cdv A outer s H vs Q E hr h => ?_)
  obtain ⟨Hd, ds, r, s0, hv, ⟨q1, q2, rfl, hq1, hq2, p1, p2, rfl⟩, k⟩ := h
  obtain ⟨v0, _, rfl, x0, hv⟩ := hv.cons_of
  obtain ⟨v1, _, rfl, x1, hv⟩ := hv.cons_of
  rw [hv.nil_of]
  refine ⟨_, (pss_cons (ps_set (i := 2) scLawMembers.nd rfl (Or.inr rfl) (pe_lst pa_nil)) (pss_cons (ps_for PassesOwn.never rfl (pi_list (pe_op op_cat (pv 0) (pv 1))) (pg_tupK (K := K) (n := 3) rfl rfl (pgs_cons (pg_name (i := 3) scLawMembers.nd rfl (Or.inl rfl) (Or.inr rfl)) (pgs_cons (pg_name (i := 4) scLawMembers.nd rfl (Or.inl rfl) (Or.inr rfl)) (pgs_cons (pg_name (i := 5) scLawMembers.nd rfl (Or.inl rfl) (Or.inr rfl)) pgs_nil)))) (pss_one (ps_if (PW.pt (pw_and (pt_cmpR (op_niK (K := K) rfl) (pv 4) (pe_lst (pa_cons pe_str (pa_cons pe_str pa_nil))) (by rfl)) (pw_and1 (pt_cmpR (op_niK (K := K) rfl) (pv 4) (pv 2) (by rfl))))) (pss_one (ps_expr (pe_bm PySem.F.plainAttrs_list PySem.F.slot_list_append PySem.F.type_list_append mt_append (pv 2) (pa_cons (pv 4) pa_nil)))) pss_nil))) (pss_cons (ps_set (i := 6) scLawMembers.nd rfl (Or.inl rfl) (pe_ix (ix_listK (K := K) rfl) (pe_lc (own := [("_law_name", 7)]) rfl scLawMembers.nd (pi_list (pe_lst (pa_cons pe_str (pa_cons pe_str (pa_cons pe_str (pa_cons pe_str pa_nil)))))) (blkOk_by (own := [("_law_name", 7)]) (N := ["_law_first", "_law_second", "_law_known", "_law_axis", "_law_test", "_law_filters", "_law_other", "_law_name"]) (sc := defScope sLawMembers) (by decide +kernel)) (fun _ _ _ _ _ => (pg_name (i := 7) scLawMembers.nd rfl (Or.inl rfl) (Or.inr rfl))) (fun _ _ _ _ _ => (pts_one (pt_cmpR (op_niK (K := K) rfl) (pv 7) (pv 2) (by rfl)))) (fun _ _ _ _ _ => (pv 7))) pe_int (fun _ _ => rfl))) (pss_one (ps_ret (pe_callB cr_sortedS (by rfl) T.msorted (by decide +kernel) (pa_cons (pe_op op_cat (pv 2) (pe_lst (pa_cons (pv 6) (pa_cons pe_str pa_nil)))) pa_nil))))))), ?_⟩
  have hl12 : (q1 ++ q2).length ≤ 8 := by rw [List.length_append]; have := hq1.2; have := hq2.2; omega
  refine q_newL (.refl s0) fun l hl hdl G => ?_
  refine q_for (ds := (q1 ++ q2).map stepD) G ((ed_op (ed_var rfl x0) (ed_var rfl x1) (rd_cat (by rw [List.length_map, List.length_map, ← List.length_append]; exact Nat.le_trans hl12 (by decide)))).is (by rw [List.map_append])) (fun i σ Hd' H' => ∃ ks a b c, σ = [some v0, some v1, some (.ref l), a, b, c, none, none] ∧ Gr Hd H Hd' H' ∧ Hd' l = none ∧ H' l = some (.lst ((ks.map Sy.s).map V.str)) ∧ ks.length ≤ i ∧ Kn (((q1 ++ q2).take i).map (·.2)) ks)
    (fun Hd' H' G1 g1 => ?_) (fun Hd1 sd1 i d x σ Hd' H' hi sd sh xd ⟨ks, a, b, c, hσ, G1, n1, n2, hkl, kn⟩ => ?_) fun σ Hd' H' sd sh ⟨ks, a, b, c, hσ, G1, n1, n2, hkl, kn⟩ => ?_
  · obtain ⟨n1, n2⟩ := g1.out hdl upd_same
    exact ⟨[], none, none, none, rfl, G1, n1, n2, Nat.le_refl _, .nil⟩
  · obtain ⟨st, hst, rfl⟩ := map_inj_list hi
    have hi8 : i < 8 := Nat.lt_of_lt_of_le (List.getElem?_eq_some_iff.mp hst).1 hl12
    subst hσ
    obtain ⟨p, u1, u2, u3, rfl, hp, z1, z2, z3⟩ := xd.tup3
    refine tg_3 hp H' sh _ ?_
    refine s_ifApp G1 hl n1 n2 rfl (et_and (et_test (ed_op (ed_var rfl z2) (ed_lst (ea_cons ed_str (ea_cons ed_str ea_nil))) (rd_niSL (ns := ["*", "#"])))) fun _ => et_test (ed_niSM (ed_var rfl z2) rfl n2)) (fun _ => ed_var rfl z2) (by rw [List.length_map, List.length_map]; omega) fun xs' Hd4 H4 G4 d4 k1 k2 h4 => ?_
    have tk := take_succ_get hst
    have e1 : decide (st.2.s ∈ (["*", "#"] : List Str)) = decide (st.2 = .star ∨ st.2 = .hash) := by
      cases st.2 <;> decide +kernel
    have e2 : decide (st.2.s ∈ ks.map Sy.s) = decide (st.2 ∈ ks) := decide_eq_decide.mpr mem_map_s
    rw [e1, e2] at h4
    rcases h4 with ⟨hb4, v, rfl, hv⟩ | ⟨hb4, rfl⟩
    · rw [Bool.and_eq_true, Bool.not_eq_true', Bool.not_eq_true', decide_eq_false_iff_not, decide_eq_false_iff_not] at hb4
      rw [hv.str_of] at k2
      refine ⟨Hd4, sd.trans d4, G4.s, ks ++ [st.2], _, _, _, rfl, G4, k1, by rw [k2, List.map_append, List.map_append]; rfl, by rw [List.length_append, List.length_singleton]; omega, ?_⟩
      rw [tk, List.map_append]
      exact kn.more (fun z => hb4.1 (.inl z)) (fun z => hb4.1 (.inr z)) hb4.2 (List.perm_append_singleton _ _)
    · refine ⟨Hd4, sd.trans d4, G4.s, ks, _, _, _, rfl, G4, k1, k2, Nat.le_succ_of_le hkl, ?_⟩
      rw [tk, List.map_append]
      refine kn.same ?_
      by_cases ha : st.2 = .star ∨ st.2 = .hash
      · exact ha.elim .inl fun z => .inr (.inl z)
      · by_cases hb : st.2 ∈ ks
        · exact .inr (.inr hb)
        · simp [ha, hb] at hb4
  · subst hσ
    have e : (q1 ++ q2).take ((q1 ++ q2).map stepD).length = q1 ++ q2 := by rw [List.length_map]; exact List.take_length
    rw [e] at kn
    have G2 := G1.frz hl n1 n2
    have xk : Dt (upd Hd' l (.lst ((ks.map Sy.s).map V.str))) (.ref l) (.list ((ks.map Sy.s).map PyData.str)) := .lst upd_same (.of_strs _)
    have kl := kn_len kn p1 p2
    refine q_asg (d := .str (otherOf ks).s) G2 (ed_op (d := .list (((["a", "b", "c", "d"] : List Str).filter fun n => !decide (n ∈ ks.map Sy.s)).map PyData.str)) (ed_lcFil PyData.str PyData.str (fun n => !decide (n ∈ ks.map Sy.s)) ["a", "b", "c", "d"] (ed_lst (ea_cons ed_str (ea_cons ed_str (ea_cons ed_str (ea_cons ed_str ea_nil))))) (by decide)
      fun Hd1 H1 u n hn x hx => ⟨_, tg_name, rfl, et_test (ed_op (ed_var rfl hx) (ed_var rfl (xk.mono u.d)) rd_niSL), fun _ => ed_var rfl hx⟩) ed_int (rd_ixL (j := 0) (by rw [List.getElem?_map, other_law (kn.ab p1 p2)]; rfl))) fun o Hd3 H3 G3 g3 xo => ?_
    refine s_ret G3 (ed_cb (ea_cons ((ed_op (ed_var rfl (xk.mono g3.d)) (ed_lst (ea_cons (ed_var rfl xo) (ea_cons ed_str ea_nil))) (rd_cat (by rw [List.length_map, List.length_map]; exact Nat.le_trans (show _ ≤ 4 from Nat.add_le_add_right kl 2) (by decide)))).is (congrArg PyData.list snoc_map)) ea_nil) (rc_sortedS (by rw [List.length_map, List.length_append]; show ks.length + 2 < 64; omega) (mems_of kn p1 p2))) k
theorem ok_other_name (D : Fd K mg "other_name" sOtherName ["known"] f fd) (T : Tx mg) : Df P w K mg base "other_name" 1 ["known"] spOther := by
  refine D.df (D.F.ok scOtherName (spD_len fun ds r ⟨_, e, _⟩ => by rw [e]; rfl) fun cdv A outer s H vs Q E hr h => ?_)
  obtain ⟨Hd, ds, r, s0, hv, ⟨ks, rfl, ab, rfl⟩, k⟩ := h
  obtain ⟨v0, _, rfl, x0, hv⟩ := hv.cons_of
  rw [hv.nil_of]
  refine ⟨_, (pss_cons (ps_set (i := 1) scOtherName.nd rfl (Or.inl rfl) (pe_lst (pa_cons pe_str pa_nil))) (pss_one (ps_while PassesOwn.never (pt_val pe_bl) (pss_cons (ps_setLc2 (i := 1) (own := [("name", 2), ("letter", 3)]) (vs1 := [3]) rfl scOtherName.nd rfl rfl (sw_true rfl rfl rfl (by decide +kernel)) (pi_list (pv 1)) (blkOk_by (own := [("name", 2), ("letter", 3)]) (N := ["known", "names", "name", "letter"]) (sc := defScope sOtherName) (by decide +kernel)) (by decide) (fun _ _ _ _ _ => (pg_name (i := 2) scOtherName.nd rfl (Or.inl rfl) (Or.inr rfl))) (fun _ _ _ _ _ => pts_nil) (fun _ _ _ _ _ => (pi_str (pe_gS (by rfl) T.mLETTERS))) (fun _ _ _ _ _ => (pg_name (i := 3) scOtherName.nd rfl (Or.inl rfl) (Or.inr rfl))) (fun _ _ _ _ _ => pts_nil) (fun _ _ _ _ _ => (pe_op op_add_str (pv 2) (pv 3)))) (pss_one (ps_for PassesOwn.never rfl (pi_list (pv 1)) (pg_name (i := 2) scOtherName.nd rfl (Or.inl rfl) (Or.inr rfl)) (pss_one (ps_if (pt_cmpR (op_niK (K := K) rfl) (pv 2) (pv 0) (by rfl)) (pss_one (ps_ret (pv 2))) pss_nil)))))))), ?_⟩
  refine q_asg (.refl s0) (ed_lst (ea_cons ed_str ea_nil)) fun v1 Hd1 H1 G1 g1 x1 => ?_
  refine ⟨fun m σ H' => m = 0 ∧ σ = [some v0, some v1, none, none] ∧ H' = H1, ⟨0, rfl, rfl, rfl⟩, fun m σ H' ⟨_, hσ, hH⟩ => ?_⟩
  subst hσ
  subst hH
  refine ⟨true, rfl, ?_⟩
  dsimp only
  rw [if_pos rfl]
  refine ⟨fun _ _ => False, fun _ _ h => h.elim, ?_⟩
  refine q_asg (d := .list (letters.map fun c => .str ⟨#[c]⟩)) G1 ((ed_lc2S (z := "abcdefghijklmnopqrstuvwxyz") (fun c => .str ⟨#[c]⟩) (ed_var rfl x1) (by rw [letters_are]; decide) fun Hd2 H2 u x hx => ⟨_, tg_name, rfl, ed_str, fun Hd3 H3 c hc s3 s4 => ⟨_, tg_name, rfl, (ed_op (ed_var rfl (hx.mono s3)) (ed_var rfl (.str _)) (rd_addS (by show 0 + 1 ≤ sizeLine; decide))).is (congrArg PyData.str ?_)⟩⟩).is (by rw [letters_are])) fun v2 Hd2 H2 G2 g2 x2 => ?_
  · rfl
  refine s_for G2 (ed_var rfl x2) (fun i σ Hd' H' => ∃ a, σ = [some v0, some v2, a, none] ∧ Gr Hd H Hd' H' ∧ ∀ (j d : Nat), j < i → letters[j]? = some d → (⟨#[d]⟩ : Str) ∈ ks.map Sy.s) (fun Hd' H' G3 g3 => ⟨none, rfl, G3, fun j d hj => absurd hj (Nat.not_lt_zero _)⟩)
    (fun Hd3 sd1 i d x σ Hd' H' hi sd sh xd ⟨a, hσ, G3, all⟩ => ?_) fun σ Hd' H' sd sh ⟨a, hσ, G3, all⟩ => ?_
  · obtain ⟨c, hc, rfl⟩ := map_inj_list hi
    subst hσ
    refine s_when G3 (et_test (ed_op (ed_var rfl xd) (ed_var rfl (x0.mono G3.d)) rd_niSL)) (fun hb H4 G4 g4 => ?_) fun hb H4 G4 g4 => ⟨Hd', sd, G4.s, _, rfl, G4, fun j d hj hd => ?_⟩
    · rw [Bool.not_eq_true', decide_eq_false_iff_not] at hb
      refine s_ret G4 ((ed_var rfl xd).is (congrArg PyData.str (other_is ab hc all hb))) k
    · rw [Bool.not_eq_false', decide_eq_true_eq] at hb
      rcases Nat.lt_or_ge j i with h | h
      · exact all j d h hd
      · have e : j = i := by omega
        subst e
        rw [hc] at hd
        cases hd
        exact hb
  · exfalso
    have z := all 2 99 (by decide) rfl
    rcases ab .lc (mem_map_s.mp (one_is .lc ▸ z)) with e | e <;> cases e
theorem ok_members (D : Fd K mg "members" sMembers ["first", "second"] f fd) (T : Tx mg) (D_check : Df P w K mg base "check" 4 ["questions"] spCheck) (D_other_name : Df P w K mg base "other_name" 1 ["known"] spOther) : Df P w K mg base "members" 5 ["first", "second"] spMembers := by
  refine D.df (D.F.ok scMembers (spD_len fun ds r ⟨_, _, e, _⟩ => by rw [e]; rfl) fun cdv A outer s H vs Q E hr h => ?_)
  obtain ⟨Hd, ds, r, s0, hv, ⟨q1, q2, rfl, hq1, hq2, p1, p2, rfl⟩, k⟩ := h
  obtain ⟨v0, _, rfl, x0, hv⟩ := hv.cons_of
  obtain ⟨v1, _, rfl, x1, hv⟩ := hv.cons_of
  rw [hv.nil_of]
  refine ⟨_, (pss_cons (ps_expr (pe_df D_check (hr.mono (by decide)) (by rfl) (pa_cons (pe_lst (pa_cons (pv 0) (pa_cons (pv 1) pa_nil))) pa_nil))) (pss_cons (ps_set (i := 2) scMembers.nd rfl (Or.inl rfl) (pe_callB (cr_sortTx rfl) (by rfl) T.msorted (by decide +kernel) (pa_cons (pe_scT (own := [("axis", 3), ("test", 4), ("filters", 5)]) rfl scMembers.nd (pi_list (pe_op op_cat (pv 0) (pv 1))) (blkOk_by (own := [("axis", 3), ("test", 4), ("filters", 5)]) (N := ["first", "second", "known", "axis", "test", "filters"]) (sc := defScope sMembers) (by decide +kernel)) (fun _ _ _ _ _ => (pg_tupK (K := K) (n := 3) rfl rfl (pgs_cons (pg_name (i := 3) scMembers.nd rfl (Or.inl rfl) (Or.inr rfl)) (pgs_cons (pg_name (i := 4) scMembers.nd rfl (Or.inl rfl) (Or.inr rfl)) (pgs_cons (pg_name (i := 5) scMembers.nd rfl (Or.inl rfl) (Or.inr rfl)) pgs_nil))))) (fun _ _ _ _ _ => (pts_one (pt_cmpR (op_niK (K := K) rfl) (pv 4) (pe_tup (pa_cons pe_str (pa_cons (pe_gS (by rfl) T.mTEXT) pa_nil))) (by rfl)))) (fun _ _ _ _ _ => (pv 4))) pa_nil))) (pss_one (ps_ret (pe_callB cr_sortedS (by rfl) T.msorted (by decide +kernel) (pa_cons (pe_op op_cat (pv 2) (pe_lst (pa_cons (pe_df D_other_name (hr.mono (by decide)) (by rfl) (pa_cons (pv 2) pa_nil)) (pa_cons (pe_gS (by rfl) T.mTEXT) pa_nil)))) pa_nil)))))), ?_⟩
  have hl12 : (q1 ++ q2).length ≤ 8 := by rw [List.length_append]; have := hq1.2; have := hq2.2; omega
  obtain ⟨ks, gk, kn⟩ := gath_kn (q1 ++ q2) [] [] .nil
  rw [List.nil_append] at kn
  obtain ⟨km, kn'⟩ := knownOf_kn kn p1 p2
  refine q_drop (.refl s0) (ed_call (ea_cons (ed_lst (ea_cons (ed_var rfl x0) (ea_cons (ed_var rfl x1) ea_nil))) ea_nil) ⟨[q1, q2], rfl, fun z hz => by
    rcases List.mem_cons.mp hz with e | hz
    · rw [e]; exact hq1
    · rw [List.mem_singleton.mp hz]; exact hq2, rfl⟩) fun H0 G0 g0 => ?_
  refine q_asg (d := chainD (knownOf q1 q2)) G0 (ed_sortTx stepD testF (q1 ++ q2) ((knownOf q1 q2).map Sy.s) ((ed_op (ed_var rfl x0) (ed_var rfl x1) (rd_cat (by rw [List.length_map, List.length_map, ← List.length_append]; exact Nat.le_trans hl12 (by decide)))).is (by rw [List.map_append])) (by omega)
    (fun Hd1 H1 u st hs x hx => ?_) fun ys pm so => ?_) fun v2 Hd1 H1 G1 g1 x2 => ?_
  · obtain ⟨p, u1, u2, u3, rfl, hp, z1, z2, z3⟩ := hx.tup3
    refine ⟨_, tg_3 hp, rfl, (et_test (ed_op (ed_var rfl z2) (ed_tup (ea_cons ed_str (ea_cons ed_str ea_nil))) (rd_niS (ns := ["*", "#"])))).is ?_, fun r hr => ?_⟩
    · have e1 : decide (st.2.s ∈ (["*", "#"] : List Str)) = decide (st.2 = .star ∨ st.2 = .hash) := by
        cases st.2 <;> decide +kernel
      rw [e1]
      unfold testF
      by_cases h : st.2 = .star ∨ st.2 = .hash <;> simp [h]
    · unfold testF at hr
      split at hr
      · cases hr
      · cases hr
        exact ed_var rfl z2
  · rw [List.map_nil] at gk
    rw [gk] at pm
    exact sorted_is pm so kn.nd (knownOf_sorted q1 q2) km
  · have kl := kn_len kn' p1 p2
    refine s_ret G1 (ed_cb (ea_cons ((ed_op (ed_var rfl x2) (ed_lst (ea_cons (ed_call (ea_cons (ed_var rfl x2) ea_nil) ⟨_, rfl, kn'.ab p1 p2, rfl⟩) (ea_cons ed_str ea_nil))) (rd_cat (by rw [List.length_map, List.length_map]; exact Nat.le_trans (show _ ≤ 4 from Nat.add_le_add_right kl 2) (by decide)))).is (congrArg PyData.list snoc_map)) ea_nil) (rc_sortedS (by rw [List.length_map, List.length_append]; show (knownOf q1 q2).length + 2 < 64; omega) (mems_of kn' p1 p2))) k
end
end T45

/-! The law's search; the inner loop of both searches. -/
namespace T45
open PySem PySem.Spec PyProof.Rows L2
abbrev sLawAgree : Stmt := top 36
theorem scLawAgree : FnScope ["_law_first", "_law_second", "_law_within", "_law_pair", "_law_one", "_law_two"] ["_law_first", "_law_second", "_law_within", "_law_pair"] (defScope sLawAgree) := ⟨rfl, rfl, rfl, by decide +kernel, rfl, by decide +kernel, by decide +kernel⟩
abbrev sLawParts : Stmt := top 44
theorem scLawParts : FnScope ["_law_first", "_law_second", "_law_within", "_law_chain", "_law_one", "_law_two"] ["_law_first", "_law_second", "_law_within", "_law_chain"] (defScope sLawParts) := ⟨rfl, rfl, rfl, by decide +kernel, rfl, by decide +kernel, by decide +kernel⟩
abbrev sLawDue : Stmt := top 37
theorem scLawDue : FnScope ["_law_first", "_law_second", "_law_pair", "_law_found", "_law_member"] ["_law_first", "_law_second", "_law_pair"] (defScope sLawDue) := ⟨rfl, rfl, rfl, by decide +kernel, rfl, by decide +kernel, by decide +kernel⟩
abbrev sLawBegun : Stmt := top 38
theorem scLawBegun : FnScope ["_law_first", "_law_second", "_law_one"] ["_law_first", "_law_second"] (defScope sLawBegun) := ⟨rfl, rfl, rfl, by decide +kernel, rfl, by decide +kernel, by decide +kernel⟩
abbrev sLawSearch : Stmt := top 41
theorem scLawSearch : FnScope ["_law_first", "_law_second", "_law_within", "_law_pairs", "_law_chains", "_law_due_here", "_law_chain", "_law_turn", "_law_member", "_law_after"] ["_law_first", "_law_second", "_law_within"] (defScope sLawSearch) := ⟨rfl, rfl, rfl, by decide +kernel, rfl, by decide +kernel, by decide +kernel⟩
/-! ### for i in range(n) -/
section
variable {K : PySem.W.Frag} {σ : L2.St} {Hd H Hd0 H0 : Hp} {g : TG} {tt : TT} {tu tz : TS} {D : Ends}
theorem s_forR {ta : TA} {n : Nat} (G : Gr Hd0 H0 Hd H) (h : Ea ta σ H Hd [.int (n : Int)]) (hn : n ≤ 1000) (J : Nat → L2.St → Hp → Hp → Prop) (h0 : ∀ H', Gr Hd0 H0 Hd H' → Gr Hd H Hd H' → J 0 σ Hd H')
    (hs : ∀ i σ' Hd' H', i < n → Same Hd Hd' → Same Hd' H' → J i σ' Hd' H' →
      g (.int (i : Int)) σ' H' fun σ2 H2 => tu { D with nx := fun σ3 H3 => ∃ Hd3, Same Hd Hd3 ∧ Same Hd3 H3 ∧ J (i + 1) σ3 Hd3 H3, ct := fun σ3 H3 => ∃ Hd3, Same Hd Hd3 ∧ Same Hd3 H3 ∧ J (i + 1) σ3 Hd3 H3, bk := D.nx } σ2 H2)
    (hd : ∀ σ' Hd' H', Same Hd Hd' → Same Hd' H' → J n σ' Hd' H' → D.nx σ' H') : tFor (iRng1 ta) g tu D σ H :=
  h Hd H (.refl G.s) _ fun vs Hd1 H1 g1 x1 => by
    obtain ⟨v, ws, rfl, x1, hx⟩ := x1.cons_of
    rw [hx.nil_of, x1.int_of]
    refine ⟨n, rfl, by omega, by omega, ?_⟩
    rw [Int.toNat_natCast]
    refine for_range (lo := 0) (n := n) (fun i σ' H' => ∃ Hd', Same Hd Hd' ∧ Same Hd' H' ∧ J i σ' Hd' H') ⟨Hd, Same.refl _, (G.trans g1.up.no).s, h0 H1 (G.trans g1.up.no) g1.up.no⟩ (fun i σ' H' hi ⟨Hd', s1, s2, j⟩ => ?_) fun σ' H' ⟨Hd', s1, s2, j⟩ => hd σ' Hd' H' s1 s2 j
    rw [Int.zero_add]
    exact hs i σ' Hd' H' hi s1 s2 j
theorem q_forR {ta : TA} {n : Nat} (G : Gr Hd0 H0 Hd H) (h : Ea ta σ H Hd [.int (n : Int)]) (hn : n ≤ 1000) (J : Nat → L2.St → Hp → Hp → Prop) (h0 : ∀ H', Gr Hd0 H0 Hd H' → Gr Hd H Hd H' → J 0 σ Hd H')
    (hs : ∀ i σ' Hd' H', i < n → Same Hd Hd' → Same Hd' H' → J i σ' Hd' H' →
      g (.int (i : Int)) σ' H' fun σ2 H2 => tu { D with nx := fun σ3 H3 => ∃ Hd3, Same Hd Hd3 ∧ Same Hd3 H3 ∧ J (i + 1) σ3 Hd3 H3, ct := fun σ3 H3 => ∃ Hd3, Same Hd Hd3 ∧ Same Hd3 H3 ∧ J (i + 1) σ3 Hd3 H3, bk := tz D } σ2 H2)
    (hd : ∀ σ' Hd' H', Same Hd Hd' → Same Hd' H' → J n σ' Hd' H' → tz D σ' H') : tSeq (tFor (iRng1 ta) g tu) tz D σ H :=
  s_forR (D := { D with nx := tz D }) G h hn J h0 hs hd
end

/-! ### the inner loop of a search -/
abbrev prs (acc : List En) : List PyData := (acc.map (·.1)).map pairD
abbrev chs (acc : List En) : List PyData := (acc.map (·.2)).map chainD
/-- the two lists of one's own: pairs at lp, chains at lc -/
structure Own (Hd H : Hp) (lp lc : Addr) (acc : List En) : Prop where
  ne : lp ≠ lc
  np : Hd lp = none
  nc : Hd lc = none
  p : ∃ xs, H lp = some (.lst xs) ∧ DtL Hd xs (prs acc)
  c : ∃ xs, H lc = some (.lst xs) ∧ DtL Hd xs (chs acc)
theorem Own.gr {Hd H Hd' H' : Hp} {lp lc : Addr} {acc : List En} (o : Own Hd H lp lc acc) (g : Gr Hd H Hd' H') : Own Hd' H' lp lc acc := by
  obtain ⟨xs, h1, h2⟩ := o.p
  obtain ⟨ys, h3, h4⟩ := o.c
  obtain ⟨a1, a2⟩ := g.out o.np h1
  obtain ⟨b1, b2⟩ := g.out o.nc h3
  exact ⟨o.ne, a1, b1, ⟨xs, a2, h2.mono g.d⟩, ys, b2, h4.mono g.d⟩
theorem chs_len (acc : List En) : (chs acc).length = acc.length := by rw [List.length_map, List.length_map]
theorem prs_len (acc : List En) : (prs acc).length = acc.length := by rw [List.length_map, List.length_map]
theorem big : 100000 ≤ sizeLine := by decide
theorem shaped_prs (acc : List En) : SeqAt.shaped (.list (prs acc)) = true := by
  have h : Fit 3 (pairsD (acc.map (·.1))) := fit_pairs _
  exact h.shaped (by decide)
theorem sx_ne {s : Sy} : (!decide (s.s = ("#" : Str))) = !decide (s = .hash) := by
  show (!decide (s.s = Sy.hash.s)) = _
  simp only [Sy.s_eq]
section
variable {K : PySem.W.Frag} {Hd H Hd0 H0 : Hp} {D : Ends} {tz : TS} {w : Bool} {q1 q2 : Qn} {lp lc : Addr} {acc0 : List En} {ch : List Sy} {ds : List (Sy × Pr)} {ip ic id ich im ia : Nat} {st : Option V → Option V → L2.St} {tg : TE} {vch : V} {a0 b0 : Option V}
theorem inner_loop (G : Gr Hd0 H0 Hd H) (hq1 : q1.length ≤ 4) (hq2 : q2.length ≤ 4) (lp0 : H0 lp = none) (lc0 : H0 lc = none) (O : Own Hd H lp lc acc0) (sz : Sz q1 q2 acc0) (hch : ch.length ≤ acc0.length + 1) (all : ∀ x ∈ ds, x.2 ∈ allPr q1 q2)
    (hd : Ed (tVar id) (st a0 b0) H Hd (duesD ds)) (xch : Dt Hd vch (chainD ch))
    (e1 : ∀ a b, (st a b)[ip]? = some (some (.ref lp))) (e2 : ∀ a b, (st a b)[ic]? = some (some (.ref lc))) (e3 : ∀ a b, (st a b)[ich]? = some (some vch)) (e4 : ∀ a b, (st (some a) b)[im]? = some (some a)) (e5 : ∀ a b, (st a (some b))[ia]? = some (some b))
    (e6 : ∀ a b u v, ((st a b).set im u).set ia v = st u v)
    (hag : ∀ a y p Hd1 H1, Same Hd Hd1 → Same Hd1 H1 → Dt Hd1 y (pairD p) → Ed tg (st a (some y)) H1 Hd1 (.bool (agree w q1 q2 p)))
    (hret : ∀ c, proc w q1 q2 ch ds acc0 = .error c → ∀ v Hd' H', Gr Hd0 H0 Hd' H' → Dt Hd' v (.tuple [.none, chainD c]) → D.rt v H')
    (hnx : ∀ acc', proc w q1 q2 ch ds acc0 = .ok acc' → Sz q1 q2 acc' → acc0.length ≤ acc'.length → ∀ a b Hd' H', Gr Hd0 H0 Hd' H' → Same Hd Hd' → Own Hd' H' lp lc acc' → tz D (st a b) H') :
    tSeq (tFor (iList K (tVar id)) (gTup K 2 (gCons (gName im) (gCons (gName ia) gNil))) (tSeq (tIfS (tNot (tB tg)) (tRet (tTup (tCons (tC .non) (tCons (tOp rCat (tVar ich) (tLst (tCons (tVar im) tNil))) tNil)))) tNext)
      (tIfS (tAnd (tTest (tOp rNe (tVar im) (tC (.str "#")))) (tTest (tOp (rNotInD K) (tVar ia) (tVar ip)))) (tSeq (tDrop (tBM K "list" rAppend (tVar ip) (tCons (tVar ia) tNil))) (tDrop (tBM K "list" rAppend (tVar ic) (tCons (tOp rCat (tVar ich) (tLst (tCons (tVar im) tNil))) tNil)))) tNext))) tz D (st a0 b0) H := by
  refine q_for (ds := ds.map dueD) G hd (fun i σ Hd' H' => ∃ a b acc, σ = st a b ∧ Gr Hd0 H0 Hd' H' ∧ Same Hd Hd' ∧ Own Hd' H' lp lc acc ∧ Sz q1 q2 acc ∧ acc0.length ≤ acc.length ∧ proc w q1 q2 ch (ds.drop i) acc = proc w q1 q2 ch ds acc0)
    (fun Hd' H' G1 g1 => ⟨a0, b0, acc0, rfl, G1, g1.d, O.gr g1, sz, Nat.le_refl _, rfl⟩) (fun Hd1 sd1 i d x σ Hd' H' hi sd sh xd ⟨a, b, acc, hσ, G1, s1, O1, sz1, le1, hp⟩ => ?_) fun σ Hd' H' sd sh ⟨a, b, acc, hσ, G1, s1, O1, sz1, le1, hp⟩ => ?_
  · obtain ⟨⟨m, p⟩, hm, rfl⟩ := map_inj_list hi
    subst hσ
    have pin : p ∈ allPr q1 q2 := all _ (List.mem_of_getElem? hm)
    obtain ⟨hlt, hgm⟩ := List.getElem?_eq_some_iff.mp hm
    have hdr : ds.drop i = (m, p) :: ds.drop (i + 1) := by rw [← hgm]; exact (List.drop_eq_getElem_cons hlt)
    rw [hdr] at hp
    obtain ⟨pa, u1, u2, rfl, hpa, z1, z2⟩ := xd.tup2
    refine tg_2 hpa H' sh _ ?_
    rw [e6]
    have lens := sz1.few.len hq1 hq2
    refine q_when G1 (et_not (et_B (hag _ u2 p Hd' H' s1 sh z2))) (fun hb H2 G2 g2 => ?_) (fun hb H2 G2 g2 => ?_)
    · rw [Bool.not_eq_true'] at hb
      refine s_ret G2 (ed_tup (ea_cons ed_non (ea_cons (ed_op (ed_var (e3 _ _) (xch.mono s1)) (ed_lst (ea_cons (ed_var (e4 _ _) z1) ea_nil)) (rd_cat (by rw [List.length_map, List.length_map]; exact Nat.le_trans (by show _ + 1 ≤ 2000; omega) (Nat.le_trans (by decide) big)))) ea_nil))) (fun v Hd3 H3 G3 x3 => hret (ch ++ [m]) ?_ v Hd3 H3 G3 ?_)
      · rw [← hp]
        unfold proc
        rw [if_neg (by rw [hb]; exact Bool.false_ne_true)]
      · unfold chainD
        rw [List.map_append, List.map_append]
        exact x3
    · rw [Bool.not_eq_false'] at hb
      have O2 := O1.gr g2
      obtain ⟨xs, hxs, dxs⟩ := O2.p
      obtain ⟨ys, hys, dys⟩ := O2.c
      have hxl : xs.length = acc.length := by rw [dxs.length, prs_len]
      have hyl : ys.length = acc.length := by rw [dys.length, chs_len]
      refine s_when G2 (et_and (et_test (ed_op (ed_var (e4 _ _) z1) ed_str rd_neS)) fun _ => et_test (ed_niDM (ed_var (e5 _ _) z2) (e1 _ _) hxs dxs ((fit_pair p).shaped (by decide)) (shaped_prs acc))) (fun hc H3 G3 g3 => ?_) (fun hc H3 G3 g3 => ?_)
      · rw [sx_ne, any_pair, Bool.and_eq_true, Bool.not_eq_true', Bool.not_eq_true', decide_eq_false_iff_not, decide_eq_false_iff_not] at hc
        refine q_app G3 lp0 O2.np (g3.h _ _ hxs) (e1 _ _) (ed_var (e5 _ _) z2) (by omega) fun v Hd4 H4 G4 g4 n4 x4 => ?_
        obtain ⟨m1, m2⟩ := g4.out O2.nc (g3.h _ _ hys)
        have hys' : upd H4 lp (.lst (xs ++ [v])) lc = some (.lst ys) := by rw [upd_ne O2.ne.symm]; exact m2
        have s4 : Same Hd Hd4 := s1.trans g4.d
        refine s_app G4 lc0 m1 hys' (e2 _ _) (ed_op (ed_var (e3 _ _) (xch.mono s4)) (ed_lst (ea_cons (ed_var (e4 _ _) (z1.mono g4.d)) ea_nil)) (rd_cat (by rw [List.length_map, List.length_map]; exact Nat.le_trans (by show _ + 1 ≤ 2000; omega) (Nat.le_trans (by decide) big)))) (by omega) fun v5 Hd5 H5 G5 g5 n5 x5 => ?_
        obtain ⟨k1, k2⟩ := g5.out n4 upd_same
        refine ⟨Hd5, sd.trans (g4.d.trans g5.d), G5.s, _, _, acc ++ [(p, ch ++ [m])], rfl, G5, s4.trans g5.d, ⟨O2.ne, k1, n5, ⟨xs ++ [v], by rw [upd_ne O2.ne]; exact k2, ?_⟩, ys ++ [v5], upd_same, ?_⟩, sz1.snoc hc.2 pin (by omega), by rw [List.length_append]; omega, ?_⟩
        · unfold prs
          rw [List.map_append, List.map_append]
          exact ((dxs.mono g4.d).append (.one x4)).mono g5.d
        · unfold chs
          rw [List.map_append, List.map_append]
          refine (dys.mono (g4.d.trans g5.d)).append (.one ?_)
          unfold chainD
          rw [List.map_append, List.map_append]
          exact x5
        · rw [← hp]
          conv => rhs; unfold proc
          rw [if_pos hb, if_pos hc]
      · refine ⟨Hd', sd, G3.s, _, _, acc, rfl, G3, s1, O2.gr g3, sz1, le1, ?_⟩
        rw [← hp]
        conv => rhs; unfold proc
        rw [if_pos hb, if_neg]
        intro z
        rw [sx_ne, any_pair] at hc
        simp [z.1, z.2] at hc
  · subst hσ
    have e : ds.drop (ds.map dueD).length = [] := by rw [List.length_map]; exact List.drop_length
    rw [e] at hp
    exact hnx acc hp.symm sz1 le1 a b Hd' H' G1 s1 O1
end
def spAgreeLaw : Sp := spD fun ds r => ∃ (q1 q2 : Qn) (w : Bool) (p : Pr), ds = [quesD q1, quesD q2, .bool w, pairD p] ∧ r = .bool (agree w q1 q2 p)
def spParts : Sp := spD fun ds r => ∃ (q1 q2 : Qn) (w : Bool) (c : List Sy), ds = [quesD q1, quesD q2, .bool w, chainD c] ∧ Good q1 ∧ Good q2 ∧ r = .bool (parts w q1 q2 c)
def Qs (q1 q2 : Qn) : Prop := Good q1 ∧ Good q2 ∧ Plain q1 ∧ Plain q2
def Sml (p : Pr) : Prop := p.1.length ≤ 30 ∧ p.2.length ≤ 30
def spDue : Sp := spD fun ds r => ∃ (q1 q2 : Qn) (p : Pr), ds = [quesD q1, quesD q2, pairD p] ∧ Qs q1 q2 ∧ Sml p ∧ r = duesD (due q1 q2 p)
def spBegun : Sp := spD fun ds r => ∃ (q1 q2 : Qn), ds = [quesD q1, quesD q2] ∧ Qs q1 q2 ∧ r = duesD (begun q1 q2)
/-- what a search tells -/
def tellD : Except (List Sy) (List En) → PyData
  | .error c => .tuple [.none, chainD c]
  | .ok acc => .tuple [.list (prs acc), .none]
def tell? : Option (Except (List Sy) (List En)) → PyData
  | some r => tellD r
  | none => .none
def spSearchLaw : Sp := spD fun ds r => ∃ (q1 q2 : Qn) (w : Bool), ds = [quesD q1, quesD q2, .bool w] ∧ Qs q1 q2 ∧ r = tell? (go w q1 q2 200 0 [])
theorem sml_aft {q1 q2 : Qn} (h1 : q1.length ≤ 4) (h2 : q2.length ≤ 4) {p : Pr} (h : p ∈ allPr q1 q2) : Sml p := by
  unfold allPr at h
  obtain ⟨a, ha, h⟩ := List.mem_flatMap.mp h
  obtain ⟨b, hb, rfl⟩ := List.mem_map.mp h
  have sub : ∀ (l x : List Nat), x ∈ subs l → x.length ≤ l.length := fun l => by
    induction l with
    | nil =>
      intro x hx
      unfold subs at hx
      rw [List.mem_singleton.mp hx]
      exact Nat.le_refl _
    | cons y l ih =>
      intro x hx
      unfold subs at hx
      rcases List.mem_append.mp hx with hx | hx
      all_goals first
        | (exact Nat.le_succ_of_le (ih x hx))
        | (obtain ⟨z, hz, rfl⟩ := List.mem_map.mp hx
           exact Nat.succ_le_succ (ih z hz))
  have a1 := sub _ a ha
  have b1 := sub _ b hb
  rw [List.length_range] at a1 b1
  exact ⟨by show a.length ≤ 30; omega, by show b.length ≤ 30; omega⟩
section
variable {P : Program} {w : World} {K : PySem.W.Frag} {mg : Str → Option Value} {base : Heap} {f : Addr} {fd : FuncData}
theorem in_nat {q : Qn} {ps : List Nat} : decide (((q.map stepD).length : Int) ∈ natsV ps) = decide (q.length ∈ ps) := by
  rw [list_len, mem_nats]
theorem ok_law_agree (D : Fd K mg "_law_agree" sLawAgree ["_law_first", "_law_second", "_law_within", "_law_pair"] f fd) (T : Tx mg) : Df P w K mg base "_law_agree" 1 ["_law_first", "_law_second", "_law_within", "_law_pair"] spAgreeLaw := by
  refine D.df (D.F.ok scLawAgree (spD_len fun ds r ⟨_, _, _, _, e, _⟩ => by rw [e]; rfl) fun cdv A outer s H vs Q E hr h => ?_)
  obtain ⟨Hd, ds, r, s0, hv, ⟨q1, q2, wi, p, rfl, rfl⟩, k⟩ := h
  obtain ⟨v0, _, rfl, x0, hv⟩ := hv.cons_of
  obtain ⟨v1, _, rfl, x1, hv⟩ := hv.cons_of
  obtain ⟨v2, _, rfl, x2, hv⟩ := hv.cons_of
  obtain ⟨v3, _, rfl, x3, hv⟩ := hv.cons_of
  rw [hv.nil_of]
  refine ⟨_, (pss_cons (ps_par (i := 4) (j := 5) rfl scLawAgree.nd rfl rfl (by decide) rfl rfl (pa_cons (pe_cmpR (op_inK (K := K) rfl) (pe_callB (cr_lenK (K := K) rfl) (by rfl) T.mlen PySem.boot_len (pa_cons (pv 0) pa_nil)) (pe_ix (ix_tupK (K := K) rfl) (pv 3) pe_int (fun _ _ => rfl)) (by rfl)) (pa_cons (pe_cmpR (op_inK (K := K) rfl) (pe_callB (cr_lenK (K := K) rfl) (by rfl) T.mlen PySem.boot_len (pa_cons (pv 1) pa_nil)) (pe_ix (ix_tupK (K := K) rfl) (pv 3) pe_int (fun _ _ => rfl)) (by rfl)) pa_nil)) (by rfl)) (pss_cons (ps_if (pt_val (pv 2)) (pss_one (ps_ret (pe_or (pv 5) (pe_one (pe_not (pv 4)))))) pss_nil) (pss_one (ps_ret (pe_cmpR op_eq (pv 4) (pv 5) (nomark _)))))), ?_⟩
  refine q_par (d1 := .bool (decide (q1.length ∈ p.1))) (d2 := .bool (decide (q2.length ∈ p.2))) (.refl s0) (ea_cons ((ed_op (ed_cb (ea_cons (ed_var rfl x0) ea_nil) rc_len) (ed_op (ed_var rfl x3) ed_int (rd_ixT (j := 0) rfl)) rd_inI).is (congrArg PyData.bool in_nat))
    (ea_cons ((ed_op (ed_cb (ea_cons (ed_var rfl x1) ea_nil) rc_len) (ed_op (ed_var rfl x3) ed_int (rd_ixT (j := 1) rfl)) rd_inI).is (congrArg PyData.bool in_nat)) ea_nil)) fun o t Hd1 H1 G1 g1 xo xt => ?_
  refine q_when G1 (et_B (ed_var rfl (x2.mono g1.d))) (fun hb H2 G2 g2 => ?_) (fun hb H2 G2 g2 => ?_)
  · refine s_ret G2 ((ed_orV (ed_var rfl xt) fun _ => ed_notV (ed_var rfl xo)).is ?_) k
    unfold agree
    rw [if_pos hb]
  · refine s_ret G2 ((ed_op (ed_var rfl xo) (ed_var rfl xt) rd_eqB).is ?_) k
    unfold agree
    rw [if_neg (by rw [hb]; exact Bool.false_ne_true)]
theorem ok_law_parts (D : Fd K mg "_law_parts" sLawParts ["_law_first", "_law_second", "_law_within", "_law_chain"] f fd) (T : Tx mg) (D__law_takes : Df P w K mg base "_law_takes" 2 ["_law_question", "_law_chain"] spTakes) : Df P w K mg base "_law_parts" 3 ["_law_first", "_law_second", "_law_within", "_law_chain"] spParts := by
  refine D.df (D.F.ok scLawParts (spD_len fun ds r ⟨_, _, _, _, e, _⟩ => by rw [e]; rfl) fun cdv A outer s H vs Q E hr h => ?_)
  obtain ⟨Hd, ds, r, s0, hv, ⟨q1, q2, wi, c, rfl, g1', g2', rfl⟩, k⟩ := h
  obtain ⟨v0, _, rfl, x0, hv⟩ := hv.cons_of
  obtain ⟨v1, _, rfl, x1, hv⟩ := hv.cons_of
  obtain ⟨v2, _, rfl, x2, hv⟩ := hv.cons_of
  obtain ⟨v3, _, rfl, x3, hv⟩ := hv.cons_of
  rw [hv.nil_of]
  refine ⟨_, (pss_cons (ps_par (i := 4) (j := 5) rfl scLawParts.nd rfl rfl (by decide) rfl rfl (pa_cons (pe_df D__law_takes (hr.mono (by decide)) (by rfl) (pa_cons (pv 0) (pa_cons (pv 3) pa_nil))) (pa_cons (pe_df D__law_takes (hr.mono (by decide)) (by rfl) (pa_cons (pv 1) (pa_cons (pv 3) pa_nil))) pa_nil)) (by rfl)) (pss_cons (ps_if (pt_val (pv 2)) (pss_one (ps_ret (pe_and (pv 4) (pe_one (pe_not (pv 5)))))) pss_nil) (pss_one (ps_ret (pe_cmpR op_ne (pv 4) (pv 5) (nomark _)))))), ?_⟩
  refine q_par (.refl s0) (ea_cons (ed_call (ea_cons (ed_var rfl x0) (ea_cons (ed_var rfl x3) ea_nil)) ⟨_, _, rfl, g1', rfl⟩) (ea_cons (ed_call (ea_cons (ed_var rfl x1) (ea_cons (ed_var rfl x3) ea_nil)) ⟨_, _, rfl, g2', rfl⟩) ea_nil)) fun o t Hd1 H1 G1 g1 xo xt => ?_
  refine q_when G1 (et_B (ed_var rfl (x2.mono g1.d))) (fun hb H2 G2 g2 => ?_) (fun hb H2 G2 g2 => ?_)
  · refine s_ret G2 ((ed_andV (ed_var rfl xo) fun _ => ed_notV (ed_var rfl xt)).is ?_) k
    unfold parts
    rw [if_pos hb]
  · refine s_ret G2 ((ed_op (ed_var rfl xo) (ed_var rfl xt) rd_neB).is ?_) k
    unfold parts
    rw [if_neg (by rw [hb]; exact Bool.false_ne_true)]
theorem ok_law_due (D : Fd K mg "_law_due" sLawDue ["_law_first", "_law_second", "_law_pair"] f fd) (T : Tx mg) (D__law_members : Df P w K mg base "_law_members" 1 ["_law_first", "_law_second"] spMembers) (D__law_next : Df P w K mg base "_law_next" 1 ["_law_question", "_law_places", "_law_member"] spNext) : Df P w K mg base "_law_due" 2 ["_law_first", "_law_second", "_law_pair"] spDue := by
  refine D.df (D.F.ok scLawDue (spD_len fun ds r ⟨_, _, _, e, _⟩ => by rw [e]; rfl) fun cdv A outer s H vs Q E hr h => ?_)
  obtain ⟨Hd, ds, r, s0, hv, ⟨q1, q2, p, rfl, hq, hp, rfl⟩, k⟩ := h
  obtain ⟨v0, _, rfl, x0, hv⟩ := hv.cons_of
  obtain ⟨v1, _, rfl, x1, hv⟩ := hv.cons_of
  obtain ⟨v2, _, rfl, x2, hv⟩ := hv.cons_of
  rw [hv.nil_of]
  refine ⟨_, (pss_cons (ps_set (i := 3) scLawDue.nd rfl (Or.inl rfl) (pe_lst pa_nil)) (pss_cons (ps_for PassesOwn.never rfl (pi_list (pe_df D__law_members (hr.mono (by decide)) (by rfl) (pa_cons (pv 0) (pa_cons (pv 1) pa_nil)))) (pg_name (i := 4) scLawDue.nd rfl (Or.inl rfl) (Or.inr rfl)) (pss_one (ps_expr (pe_bm PySem.F.plainAttrs_list PySem.F.slot_list_append PySem.F.type_list_append mt_append (pv 3) (pa_cons (pe_tup (pa_cons (pv 4) (pa_cons (pe_tup (pa_cons (pe_df D__law_next (hr.mono (by decide)) (by rfl) (pa_cons (pv 0) (pa_cons (pe_ix (ix_tupK (K := K) rfl) (pv 2) pe_int (fun _ _ => rfl)) (pa_cons (pv 4) pa_nil)))) (pa_cons (pe_df D__law_next (hr.mono (by decide)) (by rfl) (pa_cons (pv 1) (pa_cons (pe_ix (ix_tupK (K := K) rfl) (pv 2) pe_int (fun _ _ => rfl)) (pa_cons (pv 4) pa_nil)))) pa_nil))) pa_nil))) pa_nil))))) (pss_one (ps_ret (pv 3))))), ?_⟩
  have hml := mems_len q1 q2
  refine q_newL (.refl s0) fun l hl hdl G => ?_
  refine q_for G (ed_call (d := chainD (mems q1 q2)) (ea_cons (ed_var rfl x0) (ea_cons (ed_var rfl x1) ea_nil)) ⟨_, _, rfl, hq.1, hq.2.1, hq.2.2.1, hq.2.2.2, rfl⟩) (fun i σ Hd' H' => ∃ a xs, σ = [some v0, some v1, some v2, some (.ref l), a] ∧ Gr Hd H Hd' H' ∧ Hd' l = none ∧ H' l = some (.lst xs) ∧ DtL Hd' xs (((mems q1 q2).take i).map fun m => dueD (m, aft q1 q2 p m)))
    (fun Hd' H' G1 g1 => ?_) (fun Hd1 sd1 i d x σ Hd' H' hi sd sh xd ⟨a, xs, hσ, G1, n1, n2, hx⟩ => ?_) fun σ Hd' H' sd sh ⟨a, xs, hσ, G1, n1, n2, hx⟩ => ?_
  · obtain ⟨n1, n2⟩ := g1.out hdl upd_same
    exact ⟨none, [], rfl, G1, n1, n2, by rw [List.take_zero]; exact .nil⟩
  · obtain ⟨m, hm, rfl⟩ := chain_get hi
    subst hσ
    have y := sd1.trans sd
    have y2 := x2.mono y
    refine s_app G1 hl n1 n2 rfl (ed_tup (ea_cons (ed_var rfl xd) (ea_cons (ed_tup (ea_cons (ed_call (ea_cons (ed_var rfl (x0.mono y)) (ea_cons (ed_op (ed_var rfl y2) ed_int (rd_ixT (j := 0) rfl)) (ea_cons (ed_var rfl xd) ea_nil))) ⟨_, _, m, rfl, hq.1.2, hp.1, rfl⟩)
      (ea_cons (ed_call (ea_cons (ed_var rfl (x1.mono y)) (ea_cons (ed_op (ed_var rfl y2) ed_int (rd_ixT (j := 1) rfl)) (ea_cons (ed_var rfl xd) ea_nil))) ⟨_, _, m, rfl, hq.2.1.2, hp.2, rfl⟩) ea_nil))) ea_nil))) ?_ fun v Hd2 H2 G2 g2 k1 xv => ?_
    · rw [hx.length, List.length_map, List.length_take]
      omega
    · refine ⟨Hd2, sd.trans g2.d, G2.s, _, _, rfl, G2, k1, upd_same, ?_⟩
      rw [take_succ_get hm, List.map_append]
      exact (hx.mono g2.d).append (.one xv)
  · subst hσ
    have e : (mems q1 q2).take (((mems q1 q2).map Sy.s).map PyData.str).length = mems q1 q2 := by rw [List.length_map, List.length_map]; exact List.take_length
    rw [e] at hx
    have G2 := G1.frz hl n1 n2
    refine s_ret G2 (ed_var rfl (Dt.lst upd_same ?_)) k
    unfold due
    rw [List.map_map]
    exact hx.mono (upd_same_new n1)
theorem ok_law_begun (D : Fd K mg "_law_begun" sLawBegun ["_law_first", "_law_second"] f fd) (T : Tx mg) (D__law_due : Df P w K mg base "_law_due" 2 ["_law_first", "_law_second", "_law_pair"] spDue) : Df P w K mg base "_law_begun" 3 ["_law_first", "_law_second"] spBegun := by
  refine D.df (D.F.ok scLawBegun (spD_len fun ds r ⟨_, _, e, _⟩ => by rw [e]; rfl) fun cdv A outer s H vs Q E hr h => ?_)
  obtain ⟨Hd, ds, r, s0, hv, ⟨q1, q2, rfl, hq, rfl⟩, k⟩ := h
  obtain ⟨v0, _, rfl, x0, hv⟩ := hv.cons_of
  obtain ⟨v1, _, rfl, x1, hv⟩ := hv.cons_of
  rw [hv.nil_of]
  refine ⟨_, (pss_one (ps_ret (pe_lc (own := [("_law_one", 2)]) rfl scLawBegun.nd (pi_list (pe_df D__law_due (hr.mono (by decide)) (by rfl) (pa_cons (pv 0) (pa_cons (pv 1) (pa_cons (pe_tup (pa_cons (pe_lst (pa_cons pe_int pa_nil)) (pa_cons (pe_lst (pa_cons pe_int pa_nil)) pa_nil))) pa_nil))))) (blkOk_by (own := [("_law_one", 2)]) (N := ["_law_first", "_law_second", "_law_one"]) (sc := defScope sLawBegun) (by decide +kernel)) (fun _ _ _ _ _ => (pg_name (i := 2) scLawBegun.nd rfl (Or.inl rfl) (Or.inr rfl))) (fun _ _ _ _ _ => (pts_one (pt_cmpR op_ne (pe_ix (ix_tupK (K := K) rfl) (pv 2) pe_int (fun _ _ => rfl)) pe_str (nomark _)))) (fun _ _ _ _ _ => (pv 2))))), ?_⟩
  have hml := mems_len q1 q2
  refine s_ret (.refl s0) (ed_lcFil dueD dueD (fun x => !decide (x.1 = Sy.hash)) (due q1 q2 ([0], [0])) (ed_call (ea_cons (ed_var rfl x0) (ea_cons (ed_var rfl x1) (ea_cons (ed_tup (ea_cons (ed_lst (ea_cons ed_int ea_nil)) (ea_cons (ed_lst (ea_cons ed_int ea_nil)) ea_nil))) ea_nil))) ⟨q1, q2, ([0], [0]), rfl, hq, ⟨by decide, by decide⟩, rfl⟩) (by unfold due; rw [List.length_map]; omega) fun Hd1 H1 u d hd x hx => ?_) k
  exact ⟨_, tg_name, rfl, (et_test (ed_op (ed_op (ed_var rfl hx) ed_int (rd_ixT (j := 0) rfl)) ed_str rd_neS)).is sx_ne, fun _ => ed_var rfl hx⟩
theorem ok_law_search (D : Fd K mg "_law_search" sLawSearch ["_law_first", "_law_second", "_law_within"] f fd) (T : Tx mg) (D__law_due : Df P w K mg base "_law_due" 2 ["_law_first", "_law_second", "_law_pair"] spDue) (D__law_begun : Df P w K mg base "_law_begun" 3 ["_law_first", "_law_second"] spBegun) (D__law_agree : Df P w K mg base "_law_agree" 1 ["_law_first", "_law_second", "_law_within", "_law_pair"] spAgreeLaw) : Df P w K mg base "_law_search" 4 ["_law_first", "_law_second", "_law_within"] spSearchLaw := by
  refine D.df (D.F.ok scLawSearch (spD_len fun ds r ⟨_, _, _, e, _⟩ => by rw [e]; rfl) fun cdv A outer s H vs Q E hr h => ?_)
  obtain ⟨Hd, ds, r, s0, hv, ⟨q1, q2, wi, rfl, hq, rfl⟩, k⟩ := h
  obtain ⟨v0, _, rfl, x0, hv⟩ := hv.cons_of
  obtain ⟨v1, _, rfl, x1, hv⟩ := hv.cons_of
  obtain ⟨v2, _, rfl, x2, hv⟩ := hv.cons_of
  rw [hv.nil_of]
  generalize hres : go wi q1 q2 200 0 [] = res at k
  have hu65 : (A.deeper (envOfC "_law_search" (defScope sLawSearch) s.heap.objs.size f cdv)).units + 65 < cLine := by have := hr.un; omega
  refine ⟨_, (pss_cons (ps_set (i := 3) scLawSearch.nd rfl (Or.inl rfl) (pe_lst pa_nil)) (pss_cons (ps_set (i := 4) scLawSearch.nd rfl (Or.inl rfl) (pe_lst pa_nil)) (pss_cons (ps_set (i := 5) scLawSearch.nd rfl (Or.inl rfl) (pe_df D__law_begun (hr.mono (by decide)) (by rfl) (pa_cons (pv 0) (pa_cons (pv 1) pa_nil)))) (pss_cons (ps_set (i := 6) scLawSearch.nd rfl (Or.inl rfl) (pe_lst pa_nil)) (pss_cons (ps_for PassesOwn.never rfl (pi_range1 rfl T.mrange (pa_cons pe_int pa_nil)) (pg_name (i := 7) scLawSearch.nd rfl (Or.inl rfl) (Or.inr rfl)) (pss_cons (ps_for PassesOwn.never rfl (pi_list (pv 5)) (pg_tupK (K := K) (n := 2) rfl rfl (pgs_cons (pg_name (i := 8) scLawSearch.nd rfl (Or.inl rfl) (Or.inr rfl)) (pgs_cons (pg_name (i := 9) scLawSearch.nd rfl (Or.inl rfl) (Or.inr rfl)) pgs_nil))) (pss_cons (ps_if (pt_not (pt_val (pe_df D__law_agree (hr.mono (by decide)) (by rfl) (pa_cons (pv 0) (pa_cons (pv 1) (pa_cons (pv 2) (pa_cons (pv 9) pa_nil))))))) (pss_one (ps_ret (pe_tup (pa_cons pe_non (pa_cons (pe_op op_cat (pv 6) (pe_lst (pa_cons (pv 8) pa_nil))) pa_nil))))) pss_nil) (pss_one (ps_if (PW.pt (pw_and (pt_cmpR op_ne (pv 8) pe_str (nomark _)) (pw_and1 (pt_cmpR (op_niDK (K := K) rfl hu65) (pv 9) (pv 3) (by rfl))))) (pss_cons (ps_expr (pe_bm PySem.F.plainAttrs_list PySem.F.slot_list_append PySem.F.type_list_append mt_append (pv 3) (pa_cons (pv 9) pa_nil))) (pss_one (ps_expr (pe_bm PySem.F.plainAttrs_list PySem.F.slot_list_append PySem.F.type_list_append mt_append (pv 4) (pa_cons (pe_op op_cat (pv 6) (pe_lst (pa_cons (pv 8) pa_nil))) pa_nil))))) pss_nil)))) (pss_cons (ps_if (pt_cmpR op_ge (pv 7) (pe_callB (cr_lenK (K := K) rfl) (by rfl) T.mlen PySem.boot_len (pa_cons (pv 3) pa_nil)) (nomark _)) (pss_one (ps_ret (pe_tup (pa_cons (pv 3) (pa_cons pe_non pa_nil))))) pss_nil) (pss_cons (ps_set (i := 5) scLawSearch.nd rfl (Or.inl rfl) (pe_df D__law_due (hr.mono (by decide)) (by rfl) (pa_cons (pv 0) (pa_cons (pv 1) (pa_cons (pe_ix (ix_listK (K := K) rfl) (pv 3) (pv 7) (fun _ _ => rfl)) pa_nil))))) (pss_one (ps_set (i := 6) scLawSearch.nd rfl (Or.inl rfl) (pe_ix (ix_listK (K := K) rfl) (pv 4) (pv 7) (fun _ _ => rfl)))))))) (pss_one (ps_ret pe_non))))))), ?_⟩
  refine q_newL (.refl s0) fun lp hlp hdp G1 => ?_
  refine q_newL G1 fun lc hlc hdc G2 => ?_
  have ne : lp ≠ lc := fun e => by
    subst e
    rw [upd_same] at hlc
    cases hlc
  have hlc0 : H lc = none := by rwa [upd_ne ne.symm] at hlc
  have O0 : Own Hd (upd (upd H lp (.lst [])) lc (.lst [])) lp lc [] := ⟨ne, hdp, hdc, ⟨[], by rw [upd_ne ne]; exact upd_same, .nil⟩, [], upd_same, .nil⟩
  refine q_asg G2 (ed_call (ea_cons (ed_var rfl x0) (ea_cons (ed_var rfl x1) ea_nil)) ⟨q1, q2, rfl, hq, rfl⟩) fun v5 Hd3 H3 G3 g3 x5 => ?_
  refine q_asg (d := chainD []) G3 (ed_lst ea_nil) fun v6 Hd4 H4 G4 g4 x6 => ?_
  refine q_forR (n := 200) G4 (ea_cons ed_int ea_nil) (by decide) (fun i σ Hd' H' => ∃ u5 u6 a7 a8 a9 acc, σ = [some v0, some v1, some v2, some (.ref lp), some (.ref lc), some u5, some u6, a7, a8, a9] ∧ Gr Hd H Hd' H' ∧ Own Hd' H' lp lc acc ∧ Sz q1 q2 acc ∧ Dt Hd' u5 (duesD (dueAt q1 q2 acc i)) ∧ Dt Hd' u6 (chainD (chAt acc i)) ∧ go wi q1 q2 (200 - i) i acc = res)
    (fun H5 G5 g5 => ⟨v5, v6, none, none, none, [], rfl, G5, O0.gr ((g3.trans g4).trans g5), sz_nil _ _, x5.mono g4.d, x6, hres⟩) (fun i σ Hd' H' hi sd sh ⟨u5, u6, a7, a8, a9, acc, hσ, G5, O5, sz5, y5, y6, hgo⟩ => ?_) fun σ Hd' H' sd sh ⟨u5, u6, a7, a8, a9, acc, hσ, G5, O5, sz5, y5, y6, hgo⟩ => ?_
  · subst hσ
    have e200 : 200 - i = (199 - i) + 1 := by omega
    rw [e200] at hgo
    unfold go at hgo
    have s5 : Same Hd Hd' := G5.d
    refine inner_loop (w := wi) (q1 := q1) (q2 := q2) (ch := chAt acc i) (ds := dueAt q1 q2 acc i) (st := fun a b => [some v0, some v1, some v2, some (.ref lp), some (.ref lc), some u5, some u6, some (.int (i : Int)), a, b]) (vch := u6) G5 hq.1.2 hq.2.1.2 hlp hlc0 O5 sz5 (sz5.ch i) (dueAt_all q1 q2 acc i) (ed_var rfl y5) y6
      (fun _ _ => rfl) (fun _ _ => rfl) (fun _ _ => rfl) (fun _ _ => rfl) (fun _ _ => rfl) (fun _ _ _ _ => rfl)
      (fun a y p Hd6 H6 s6 t6 z6 => ed_call (ea_cons (ed_var rfl ((x0.mono s5).mono s6)) (ea_cons (ed_var rfl ((x1.mono s5).mono s6)) (ea_cons (ed_var rfl ((x2.mono s5).mono s6)) (ea_cons (ed_var rfl z6) ea_nil)))) ⟨_, _, _, _, rfl, rfl⟩)
      (fun c hc v Hd6 H6 G6 x6 => ?_) (fun acc' hacc sz6 le6 a b Hd6 H6 G6 s6 O6 => ?_)
    · rw [hc] at hgo
      dsimp only at hgo
      rw [← hgo] at k
      exact k v Hd6 H6 G6 x6
    · rw [hacc] at hgo
      dsimp only at hgo
      obtain ⟨xs, hxs, dxs⟩ := O6.p
      obtain ⟨ys, hys, dys⟩ := O6.c
      have hxl : xs.length = acc'.length := by rw [dxs.length, prs_len]
      refine q_when G6 (et_test (ed_op (ed_var rfl (.int _)) (ed_lenM rfl hxs) rd_ge)) (fun hb H7 G7 g7 => ?_) (fun hb H7 G7 g7 => ?_)
      · have hle : acc'.length ≤ i := by
          have := of_decide_eq_true hb
          omega
        rw [if_pos hle] at hgo
        rw [← hgo] at k
        have O7 := O6.gr g7
        have G8 := G7.frz hlp O6.np (g7.h _ _ hxs)
        exact s_ret G8 (ed_tup (ea_cons (ed_var rfl (Dt.lst upd_same (dxs.mono (upd_same_new O6.np)))) (ea_cons ed_non ea_nil))) k
      · have hlt : i < acc'.length := by
          have := of_decide_eq_false hb
          omega
        rw [if_neg (Nat.not_le.mpr hlt)] at hgo
        have O7 := O6.gr g7
        have hen : acc'[i]? = some acc'[i] := List.getElem?_eq_getElem hlt
        have en_in := List.getElem_mem hlt
        have hps : (prs acc')[i]? = some (pairD acc'[i].1) := by rw [List.getElem?_map, List.getElem?_map, hen]; rfl
        have hcs : (chs acc')[i]? = some (chainD acc'[i].2) := by rw [List.getElem?_map, List.getElem?_map, hen]; rfl
        refine q_asg G7 (ed_call (ea_cons (ed_var rfl ((x0.mono s5).mono s6)) (ea_cons (ed_var rfl ((x1.mono s5).mono s6)) (ea_cons (ed_ixM rfl (g7.h _ _ hxs) dxs (ed_var rfl (.int _)) hps) ea_nil))) ⟨q1, q2, acc'[i].1, rfl, hq, sml_aft hq.1.2 hq.2.1.2 (sz6.few.all _ en_in), rfl⟩) fun u5' Hd8 H8 G8 g8 x8 => ?_
        have O8 := O7.gr g8
        obtain ⟨ys8, hys8, dys8⟩ := O8.c
        refine s_asg G8 (ed_ixM rfl hys8 dys8 (ed_var rfl (.int _)) hcs) fun u6' Hd9 H9 G9 g9 x9 => ?_
        refine ⟨Hd9, (sd.trans s6).trans (g8.d.trans g9.d), G9.s, u5', u6', _, _, _, acc', rfl, G9, O8.gr g9, sz6, ?_, ?_, ?_⟩
        · show Dt Hd9 u5' (duesD (match acc'[i]? with | some e => due q1 q2 e.1 | none => []))
          rw [hen]
          exact x8.mono g9.d
        · show Dt Hd9 u6' (chainD (match acc'[i]? with | some e => e.2 | none => []))
          rw [hen]
          exact x9
        · have e : 200 - (i + 1) = 199 - i := by omega
          rw [e]
          exact hgo
  · subst hσ
    have e : res = none := by
      rw [← hgo]
      rfl
    rw [e] at k
    exact s_ret G5 ed_non k
end
end T45

/-! The program's comparison. -/
namespace T45
open PySem PySem.Spec PyProof.Rows L2
abbrev sArePlaces : Stmt := top 24
theorem scArePlaces : FnScope ["question", "places", "index", "place"] ["question", "places"] (defScope sArePlaces) := ⟨rfl, rfl, rfl, by decide +kernel, rfl, by decide +kernel, by decide +kernel⟩
abbrev sComparisonInit : Stmt := inClass (top 23) 0
theorem scComparisonInit : FnScope ["self", "first", "second", "within"] ["self", "first", "second", "within"] (defScope sComparisonInit) := ⟨rfl, rfl, rfl, by decide +kernel, rfl, by decide +kernel, by decide +kernel⟩
abbrev sComparisonAgrees : Stmt := inClass (top 23) 1
theorem scComparisonAgrees : FnScope ["self", "pair", "one", "two"] ["self", "pair"] (defScope sComparisonAgrees) := ⟨rfl, rfl, rfl, by decide +kernel, rfl, by decide +kernel, by decide +kernel⟩
abbrev sComparisonAfter : Stmt := inClass (top 23) 2
theorem scComparisonAfter : FnScope ["self", "pair", "member"] ["self", "pair", "member"] (defScope sComparisonAfter) := ⟨rfl, rfl, rfl, by decide +kernel, rfl, by decide +kernel, by decide +kernel⟩
abbrev sComparisonIsProperPair : Stmt := inClass (top 23) 3
theorem scComparisonIsProperPair : FnScope ["self", "pair"] ["self", "pair"] (defScope sComparisonIsProperPair) := ⟨rfl, rfl, rfl, by decide +kernel, rfl, by decide +kernel, by decide +kernel⟩
abbrev sComparisonBegun : Stmt := inClass (top 23) 4
theorem scComparisonBegun : FnScope ["self", "member"] ["self"] (defScope sComparisonBegun) := ⟨rfl, rfl, rfl, by decide +kernel, rfl, by decide +kernel, by decide +kernel⟩
abbrev sComparisonGoingOn : Stmt := inClass (top 23) 5
theorem scComparisonGoingOn : FnScope ["self", "pair", "member"] ["self", "pair"] (defScope sComparisonGoingOn) := ⟨rfl, rfl, rfl, by decide +kernel, rfl, by decide +kernel, by decide +kernel⟩
abbrev sComparisonAccepts : Stmt := inClass (top 23) 6
theorem scComparisonAccepts : FnScope ["self", "paper", "pairs", "due", "pair", "one", "two", "member", "after"] ["self", "paper"] (defScope sComparisonAccepts) := ⟨rfl, rfl, rfl, by decide +kernel, rfl, by decide +kernel, by decide +kernel⟩
abbrev sComparisonSearch : Stmt := inClass (top 23) 7
theorem scComparisonSearch : FnScope ["self", "pairs", "chains", "at", "due", "chain", "member", "after"] ["self"] (defScope sComparisonSearch) := ⟨rfl, rfl, rfl, by decide +kernel, rfl, by decide +kernel, by decide +kernel⟩
abbrev sAcceptsPaper : Stmt := top 25
theorem scAcceptsPaper : FnScope ["first", "second", "paper", "within"] ["first", "second", "paper", "within"] (defScope sAcceptsPaper) := ⟨rfl, rfl, rfl, by decide +kernel, rfl, by decide +kernel, by decide +kernel⟩
abbrev sCompare : Stmt := top 26
theorem scCompare : FnScope ["first", "second", "paper", "chain"] ["first", "second"] (defScope sCompare) := ⟨rfl, rfl, rfl, by decide +kernel, rfl, by decide +kernel, by decide +kernel⟩
abbrev sCompareWithin : Stmt := top 27
theorem scCompareWithin : FnScope ["first", "second", "paper", "chain"] ["first", "second"] (defScope sCompareWithin) := ⟨rfl, rfl, rfl, by decide +kernel, rfl, by decide +kernel, by decide +kernel⟩
/-! ### the instance -/
/-- a comparison at a, among the data -/
def Cmp (C : Addr) (Hd : Hp) (a : Addr) (q1 q2 : Qn) (w : Bool) : Prop := ∃ dx v1 v2 v3 v4, Hd a = some (.ins C dx [("known", v1), ("first", v2), ("second", v3), ("within", v4)]) ∧ Dt Hd v1 (chainD (mems q1 q2)) ∧ Dt Hd v2 (quesD q1) ∧ Dt Hd v3 (quesD q2) ∧ Dt Hd v4 (.bool w)
theorem Cmp.mono {C : Addr} {Hd Hd' : Hp} {a : Addr} {q1 q2 : Qn} {w : Bool} (e : Same Hd Hd') (h : Cmp C Hd a q1 q2 w) : Cmp C Hd' a q1 q2 w := by
  obtain ⟨dx, v1, v2, v3, v4, h0, h1, h2, h3, h4⟩ := h
  exact ⟨dx, v1, v2, v3, v4, e _ _ h0, h1.mono e, h2.mono e, h3.mono e, h4.mono e⟩
/-- what a class has that no attribute hides -/
structure Cl (K : PySem.W.Frag) (C : Addr) : Prop where
  cl : Cls K C
  n1 : NoAttr K C "known"
  n2 : NoAttr K C "first"
  n3 : NoAttr K C "second"
  n4 : NoAttr K C "within"
/-- a method's promise: data in, data out -/
def spM (C : Addr) (f : Qn → Qn → Bool → List PyData → PyData → Prop) : Sp := fun vs H Q _ => ∃ a ws Hd ds r q1 q2 w, vs = .ref a :: ws ∧ Same Hd H ∧ Cmp C Hd a q1 q2 w ∧ DtL Hd ws ds ∧ f q1 q2 w ds r ∧ ∀ v Hd' H', Gr Hd H Hd' H' → Dt Hd' v r → Q v H'
theorem spM_len {C : Addr} {f : Qn → Qn → Bool → List PyData → PyData → Prop} {n : Nat} (h : ∀ q1 q2 w ds r, f q1 q2 w ds r → ds.length = n) : ∀ vs H Q E, spM C f vs H Q E → vs.length = n + 1 := fun vs H Q E ⟨a, ws, Hd, ds, r, q1, q2, w, e, _, _, x, hf, _⟩ => by
  rw [e, List.length_cons, x.length, h _ _ _ _ _ hf]
/-- to a comparison -/
def Eo (t : TE) (σ : L2.St) (H Hd : Hp) (C : Addr) (q1 q2 : Qn) (w : Bool) : Prop := ∀ Hd1 H1, Up Hd H Hd1 H1 → ∀ Q : VK, (∀ x Hd2 H2, Gr Hd1 H1 Hd2 H2 → Cmp C Hd2 x q1 q2 w → Q (.ref x) H2) → t σ H1 Q
/-- the class and its __init__ -/
def Dmk (P : Program) (w : World) (K : PySem.W.Frag) (mg : Str → Option Value) (base : Heap) (C : Addr) (x : Str) (k : Nat) (ps : List Str) (sp : Sp) : Prop :=
  ∃ f fd, FnOk P w K mg base CX0 k f fd ps sp ∧ Mk K C f ∧ mg x = some (.ref C) ∧ Binds K fd ps []
def spInit (C : Addr) : Sp := fun vs H Q _ => ∃ x dx H0 Hd v1 v2 v3 q1 q2 w, vs = [.ref x, v1, v2, v3] ∧ H0 x = none ∧ H0 dx = none ∧ dx ≠ x ∧ H = upd (upd H0 dx (.own x)) x (.ins C dx []) ∧ Same Hd H0 ∧ Dt Hd v1 (quesD q1) ∧ Dt Hd v2 (quesD q2) ∧ Dt Hd v3 (.bool w) ∧ Qs q1 q2 ∧
  ∀ Hd' H', Gr Hd H0 Hd' H' → Cmp C Hd' x q1 q2 w → Q .non H'
section
variable {X : Cx} {x m : Str} {pos p apos : Pos} {e o : Expr} {es : List Expr} {t : TA} {ta : TE} {k : Nat} {ps : List Str} {sp : Sp} {C : Addr}
theorem pe_mk (D : Dmk X.prog X.w X.K X.mg X.base C x k ps sp) (hr : Room (k + 1) X.A) (hg : Gl X x) (ha : PA X (e :: es) t) (hdb : (x == ("__debug__" : Str)) = false := by decide)
    (he : starEach (e :: es) X.env = (false, eval e X.env) :: starEach es X.env := by rfl) (hpl : (backTo pos (starEach es X.env)).any (·.1) = false := by rfl) : PE X (.Call (.Name x p) (e :: es) [] pos) (tMake C sp [] E0 t) := by
  obtain ⟨f, fd, G, M, m, b⟩ := D
  exact pe_make M G hr hg m b .nil pass0 ha hdb he hpl
end
section
variable {K : PySem.W.Frag} {σ : L2.St} {Hd H Hd0 H0 : Hp} {C a : Addr} {q1 q2 : Qn} {w : Bool} {to te : TE} {ts : TA} {ds : List PyData} {d : PyData} {D : Ends} {tz : TS} {i : Nat}
theorem eo_var {i : Nat} (h : σ[i]? = some (some (.ref a))) (c : Cmp C Hd a q1 q2 w) : Eo (tVar i) σ H Hd C q1 q2 w := fun Hd1 H1 u Q q => ⟨_, h, q a Hd1 H1 u.gr0 (c.mono u.d)⟩
theorem ed_meth {m : Str} {f : Qn → Qn → Bool → List PyData → PyData → Prop} (ho : Eo to σ H Hd C q1 q2 w) (h : Ea ts σ H Hd ds) (hf : f q1 q2 w ds d) (hm : ∀ v1 v2 v3 v4 : V, List.lookup m [(("known" : Str), v1), ("first", v2), ("second", v3), ("within", v4)] = none := by intros; rfl) : Ed (tMeth C m (spM C f) [] E0 to ts) σ H Hd d := fun Hd1 H1 u Q q =>
  ho Hd1 H1 u _ fun x Hd2 H2 g2 c2 => by
    obtain ⟨dx, v1, v2, v3, v4, h0, h1, h2, h3, h4⟩ := id c2
    refine ⟨x, dx, _, rfl, g2.s _ _ h0, hm v1 v2 v3 v4, h Hd2 H2 (u.gr g2) _ fun vs Hd3 H3 g3 x3 => ?_⟩
    rw [List.append_nil]
    exact ⟨x, vs, Hd3, ds, d, q1, q2, w, rfl, g3.s, c2.mono g3.d, x3, hf, fun v Hd4 H4 g4 v4 => q v Hd4 H4 ((g2.trans g3).trans g4) v4⟩
theorem ed_known (cl : Cl K C) (ho : Eo to σ H Hd C q1 q2 w) : Ed (tFld K to "known") σ H Hd (chainD (mems q1 q2)) := fun Hd1 H1 u Q q =>
  ho Hd1 H1 u _ fun x Hd2 H2 g2 ⟨dx, v1, v2, v3, v4, h0, h1, h2, h3, h4⟩ => ⟨x, C, dx, _, v1, rfl, g2.s _ _ h0, cl.cl, cl.n1, rfl, q v1 Hd2 H2 g2 h1⟩
theorem ed_first (cl : Cl K C) (ho : Eo to σ H Hd C q1 q2 w) : Ed (tFld K to "first") σ H Hd (quesD q1) := fun Hd1 H1 u Q q =>
  ho Hd1 H1 u _ fun x Hd2 H2 g2 ⟨dx, v1, v2, v3, v4, h0, h1, h2, h3, h4⟩ => ⟨x, C, dx, _, v2, rfl, g2.s _ _ h0, cl.cl, cl.n2, rfl, q v2 Hd2 H2 g2 h2⟩
theorem ed_second (cl : Cl K C) (ho : Eo to σ H Hd C q1 q2 w) : Ed (tFld K to "second") σ H Hd (quesD q2) := fun Hd1 H1 u Q q =>
  ho Hd1 H1 u _ fun x Hd2 H2 g2 ⟨dx, v1, v2, v3, v4, h0, h1, h2, h3, h4⟩ => ⟨x, C, dx, _, v3, rfl, g2.s _ _ h0, cl.cl, cl.n3, rfl, q v3 Hd2 H2 g2 h3⟩
theorem ed_within (cl : Cl K C) (ho : Eo to σ H Hd C q1 q2 w) : Ed (tFld K to "within") σ H Hd (.bool w) := fun Hd1 H1 u Q q =>
  ho Hd1 H1 u _ fun x Hd2 H2 g2 ⟨dx, v1, v2, v3, v4, h0, h1, h2, h3, h4⟩ => ⟨x, C, dx, _, v4, rfl, g2.s _ _ h0, cl.cl, cl.n4, rfl, q v4 Hd2 H2 g2 h4⟩
/-- made -/
theorem eo_make (h : Ea ts σ H Hd [quesD q1, quesD q2, .bool w]) (hq : Qs q1 q2) : Eo (tMake C (spInit C) [] E0 ts) σ H Hd C q1 q2 w := fun Hd1 H1 u Q q =>
  h Hd1 H1 u _ fun vs Hd2 H2 g2 x2 x dx hx hdx ne => by
    obtain ⟨w1, _, rfl, y1, x2⟩ := x2.cons_of
    obtain ⟨w2, _, rfl, y2, x2⟩ := x2.cons_of
    obtain ⟨w3, _, rfl, y3, x2⟩ := x2.cons_of
    rw [x2.nil_of]
    exact ⟨x, dx, H2, Hd2, w1, w2, w3, q1, q2, w, rfl, hx, hdx, ne, rfl, g2.s, y1, y2, y3, hq, fun Hd3 H3 g3 c3 => ⟨rfl, q x Hd3 H3 (g2.trans g3) c3⟩⟩
/-- self.f = e -/
theorem s_fld {l dx : Addr} {f : Str} {fs : List (Str × V)} (G : Gr Hd0 H0 Hd H) (l0 : H0 l = none) (hd : Hd l = none) (hl : H l = some (.ins C dx fs)) (hv : σ[i]? = some (some (.ref l))) (cl : Cls K C) (na : NoAttr K C f) (h : Ed te σ H Hd d) (hz : fs.length < 1000)
    (k : ∀ v Hd' H', Gr Hd0 H0 Hd' (upd H' l (.ins C dx (putF f v fs))) → Same Hd Hd' → Hd' l = none → Dt Hd' v d → D.nx σ (upd H' l (.ins C dx (putF f v fs)))) : sFld K (tVar i) te f D σ H :=
  h Hd H (.refl G.s) _ fun v Hd' H' g x => by
    obtain ⟨n1, n2⟩ := g.out hd hl
    exact ⟨_, hv, l, C, dx, fs, rfl, n2, cl, na, hz, k v Hd' H' ((G.trans g).mut l0 n1) g.d n1 x⟩
theorem q_fld {l dx : Addr} {f : Str} {fs : List (Str × V)} (G : Gr Hd0 H0 Hd H) (l0 : H0 l = none) (hd : Hd l = none) (hl : H l = some (.ins C dx fs)) (hv : σ[i]? = some (some (.ref l))) (cl : Cls K C) (na : NoAttr K C f) (h : Ed te σ H Hd d) (hz : fs.length < 1000)
    (k : ∀ v Hd' H', Gr Hd0 H0 Hd' (upd H' l (.ins C dx (putF f v fs))) → Same Hd Hd' → Hd' l = none → Dt Hd' v d → tz D σ (upd H' l (.ins C dx (putF f v fs)))) : tSeq (sFld K (tVar i) te f) tz D σ H := s_fld (D := { D with nx := tz D }) G l0 hd hl hv cl na h hz k
def isNon : PyData → Bool
  | .none => true
  | _ => false
theorem rd_isN : Rd2 (fun x y H Q => y = .non ∧ Q (.bl (decide (x = .non))) H) d .none (.bool (isNon d)) := fun Hd1 H1 b x y hx hy Q q => by
  refine ⟨hy.non_of, ?_⟩
  have e : decide (x = V.non) = isNon d := by
    clear q
    cases hx <;> rfl
  rw [e]
  exact q _ Hd1 H1 (.refl b) (.bl _)
end

/-! ### promises -/
/-- an ascending list of places -/
def Pp (q : Qn) (ps : List Nat) : Prop := ps.Pairwise (· < ·) ∧ ∀ k ∈ ps, k ≤ q.length
theorem subs_sub : ∀ {l x : List Nat}, x ∈ subs l → x.Sublist l
  | [], x, h => by
    unfold subs at h
    rw [List.mem_singleton.mp h]
    exact .slnil
  | y :: l, x, h => by
    unfold subs at h
    rcases List.mem_append.mp h with h | h
    all_goals first
      | (exact (subs_sub h).cons y)
      | (obtain ⟨z, hz, rfl⟩ := List.mem_map.mp h
         exact (subs_sub hz).cons₂ y)
theorem pp_all {q1 q2 : Qn} {p : Pr} (h : p ∈ allPr q1 q2) : Pp q1 p.1 ∧ Pp q2 p.2 := by
  unfold allPr at h
  obtain ⟨a, ha, h⟩ := List.mem_flatMap.mp h
  obtain ⟨b, hb, rfl⟩ := List.mem_map.mp h
  have s1 := subs_sub ha
  have s2 := subs_sub hb
  exact ⟨⟨List.pairwise_lt_range.sublist s1, fun k hk => Nat.le_of_lt_succ (List.mem_range.mp (s1.subset hk))⟩, List.pairwise_lt_range.sublist s2, fun k hk => Nat.le_of_lt_succ (List.mem_range.mp (s2.subset hk))⟩
def spArePlaces : Sp := spD fun ds r => ∃ (q : Qn) (ps : List Nat), ds = [quesD q, natsD ps] ∧ Pp q ps ∧ r = .bool true
def spAgrees (C : Addr) : Sp := spM C fun q1 q2 w ds r => ∃ p, ds = [pairD p] ∧ r = .bool (agree w q1 q2 p)
def spAfter (C : Addr) : Sp := spM C fun q1 q2 w ds r => ∃ p m, ds = [pairD p, .str (Sy.s m)] ∧ Qs q1 q2 ∧ Sml p ∧ r = pairD (aft q1 q2 p m)
def spProper (C : Addr) : Sp := spM C fun q1 q2 w ds r => ∃ p, ds = [pairD p] ∧ p ∈ allPr q1 q2 ∧ r = .bool true
def spBegunP (C : Addr) : Sp := spM C fun q1 q2 w ds r => ds = [] ∧ Qs q1 q2 ∧ r = duesD (begun q1 q2)
def spGoing (C : Addr) : Sp := spM C fun q1 q2 w ds r => ∃ p, ds = [pairD p] ∧ Qs q1 q2 ∧ Sml p ∧ r = duesD (due q1 q2 p)
def okAll (w : Bool) (q1 q2 : Qn) (ps : List Pr) : Bool := (begun q1 q2 ++ ps.flatMap (due q1 q2)).all (okDue w q1 q2 ps)
def spAccepts (C : Addr) : Sp := spM C fun q1 q2 w ds r => ∃ ps : List Pr, ds = [pairsD ps] ∧ Qs q1 q2 ∧ (∀ p ∈ ps, p ∈ allPr q1 q2) ∧ ps.length ≤ 1024 ∧ r = .bool (okAll w q1 q2 ps)
def spSearch (C : Addr) : Sp := spM C fun q1 q2 w ds r => ∃ res, ds = [] ∧ Qs q1 q2 ∧ go w q1 q2 1026 0 [] = some res ∧ r = tellD res
def spAcceptsPaper : Sp := spD fun ds r => ∃ (q1 q2 : Qn) (w : Bool) (ps : List Pr), ds = [quesD q1, quesD q2, pairsD ps, .bool w] ∧ Qs q1 q2 ∧ (∀ p ∈ ps, p ∈ allPr q1 q2) ∧ ps.length ≤ 1024 ∧ r = .bool (okAll w q1 q2 ps)
def saidD (yes no : Str) : Except (List Sy) (List En) → PyData
  | .error c => .tuple [.str no, chainD c]
  | .ok acc => .tuple [.str yes, .list (prs acc)]
def spCompare (w : Bool) (yes no : Str) : Sp := spD fun ds r => ∃ (q1 q2 : Qn) (res : _), ds = [quesD q1, quesD q2] ∧ Qs q1 q2 ∧ go w q1 q2 1026 0 [] = some res ∧ r = saidD yes no res
section
variable {P : Program} {w : World} {K : PySem.W.Frag} {mg : Str → Option Value} {base : Heap} {f C : Addr} {fd : FuncData}
theorem ok_are_places (D : Fd K mg "are_places" sArePlaces ["question", "places"] f fd) (T : Tx mg) : Df P w K mg base "are_places" 1 ["question", "places"] spArePlaces := by
  refine D.df (D.F.ok scArePlaces (spD_len fun ds r ⟨_, _, e, _⟩ => by rw [e]; rfl) fun cdv A outer s H vs Q E hr h => ?_)
  obtain ⟨Hd, ds, r, s0, hv, ⟨q, ps, rfl, pp, rfl⟩, k⟩ := h
  obtain ⟨v0, _, rfl, x0, hv⟩ := hv.cons_of
  obtain ⟨v1, _, rfl, x1, hv⟩ := hv.cons_of
  rw [hv.nil_of]
  refine ⟨_, (pss_cons (ps_for PassesOwn.never rfl (pi_enum (by rfl) T.menumerate (pa_cons (pv 1) pa_nil)) (pg_tupK (K := K) (n := 2) rfl rfl (pgs_cons (pg_name (i := 2) scArePlaces.nd rfl (Or.inl rfl) (Or.inr rfl)) (pgs_cons (pg_name (i := 3) scArePlaces.nd rfl (Or.inl rfl) (Or.inr rfl)) pgs_nil))) (pss_one (ps_if (PW.pt (pw_or (pt_not (pt_chain op_le op_le pe_int (pv 3) (pe_callB (cr_lenK (K := K) rfl) (by rfl) T.mlen PySem.boot_len (pa_cons (pv 0) pa_nil)))) (pw_or1 (PW.pt (pw_and (pt_cmpR op_gt (pv 2) pe_int (nomark _)) (pw_and1 (pt_cmpR op_ge (pe_ix (ix_listK (K := K) rfl) (pv 1) (pe_op op_sub (pv 2) pe_int) (fun _ _ => rfl)) (pv 3) (nomark _)))))))) (pss_one (ps_ret pe_bl)) pss_nil))) (pss_one (ps_ret pe_bl))), ?_⟩
  refine q_forE (.refl s0) (ea_cons (ed_var rfl x1) ea_nil) (fun i σ Hd' H' => ∃ a b, σ = [some v0, some v1, a, b] ∧ Gr Hd H Hd' H') (fun Hd' H' G2 g2 => ⟨none, none, rfl, G2⟩)
    (fun Hd1 sd1 i d x σ Hd' H' Hd2 H2 hi sd sh gn xd ⟨a, b, hσ, G2⟩ => ?_) fun σ Hd' H' sd sh ⟨a, b, hσ, G2⟩ => ?_
  · obtain ⟨n, hn, rfl⟩ := map_inj_list hi
    obtain ⟨p, hp, rfl⟩ : ∃ p, ps[i]? = some p ∧ n = (p : Int) := by
      rw [List.getElem?_map] at hn
      cases e : ps[i]? with
      | none => rw [e] at hn; cases hn
      | some p => rw [e] at hn; exact ⟨p, rfl, (Option.some.inj hn).symm⟩
    subst hσ
    obtain ⟨pa, u1, u2, rfl, hpa, z1, z2⟩ := xd.tup2
    refine tg_2 hpa H2 gn.s _ ?_
    have hpq := pp.2 p (List.mem_of_getElem? hp)
    have y := sd1.trans (sd.trans gn.d)
    refine s_when (b := false) (G2.trans gn) ((et_or (c := false) (et_not (et_B (et_chain ed_int (ed_var rfl z2) (ed_cb (ea_cons (ed_var rfl (x0.mono y)) ea_nil) rc_len) rd_le fun _ => rd_le))) fun _ => (et_and (c := false) (et_test (ed_op (ed_var rfl z1) ed_int rd_gt)) fun hb => ?_).is (Bool.and_false _)).is ?_) (fun hb => Bool.noConfusion hb) fun _ H4 G4 g4 => ?_
    · have hi0 : 0 < i := by
        have := of_decide_eq_true hb
        omega
      have lt := (List.getElem?_eq_some_iff.mp hp).1
      have lt' : i - 1 < ps.length := by omega
      have e1 : ps[i - 1]? = some ps[i - 1] := List.getElem?_eq_getElem lt'
      have hpl : ps[i - 1] < p := by
        have h := List.pairwise_iff_getElem.mp pp.1 (i - 1) i lt' lt (by omega)
        rw [(List.getElem?_eq_some_iff.mp hp).2] at h
        exact h
      refine (et_test (ed_op (ed_op (ed_var rfl (x1.mono y)) ((ed_op (ed_var rfl z1) ed_int rd_sub).is (e := .int ((i - 1 : Nat) : Int)) (by congr 1; omega)) (rd_ixL (j := i - 1) (d := .int (ps[i - 1] : Int)) (by rw [List.getElem?_map, List.getElem?_map, e1]; rfl))) (ed_var rfl z2) rd_ge)).is ?_
      exact decide_eq_false (by omega)
    · rw [list_len, decide_eq_true (by omega : (0 : Int) ≤ (p : Int)), decide_eq_true (by omega : (p : Int) ≤ (q.length : Int))]
      rfl
    · exact ⟨Hd2, sd.trans gn.d, G4.s, _, _, rfl, G4⟩
  · subst hσ
    exact s_ret G2 ed_bl k
theorem put_lt1 (u1 : V) : (putF "known" u1 []).length < 1000 := by
  have h1 := length_putF "known" u1 []
  rw [List.length_nil] at h1
  omega
theorem put_lt2 (u1 u2 : V) : (putF "first" u2 (putF "known" u1 [])).length < 1000 := by
  have h1 := length_putF "known" u1 []
  have h2 := length_putF "first" u2 (putF "known" u1 [])
  rw [List.length_nil] at h1
  omega
theorem put_lt3 (u1 u2 u3 : V) : (putF "second" u3 (putF "first" u2 (putF "known" u1 []))).length < 1000 := by
  have h1 := length_putF "known" u1 []
  have h2 := length_putF "first" u2 (putF "known" u1 [])
  have h3 := length_putF "second" u3 (putF "first" u2 (putF "known" u1 []))
  rw [List.length_nil] at h1
  omega
theorem put4 (u1 u2 u3 u4 : V) : putF "within" u4 (putF "second" u3 (putF "first" u2 (putF "known" u1 []))) = ([("known", u1), ("first", u2), ("second", u3), ("within", u4)] : List (Str × V)) := by rfl
theorem ok_init (D : Fm K C "__init__" "Comparison.__init__" sComparisonInit ["self", "first", "second", "within"] f fd) (cl : Cl K C) (M : Mk K C f) (hm : mg "Comparison" = some (.ref C)) (T : Tx mg) (D_members : Df P w K mg base "members" 5 ["first", "second"] spMembers) : Dmk P w K mg base C "Comparison" 6 ["self", "first", "second", "within"] (spInit C) := by
  refine ⟨f, fd, D.F.ok scComparisonInit (fun vs H Q E ⟨_, _, _, _, _, _, _, _, _, _, e, _⟩ => by rw [e]; rfl) fun cdv A outer s H vs Q E hr h => ?_, M, hm, D.b⟩
  obtain ⟨x, dx, H0, Hd, v1, v2, v3, q1, q2, wi, rfl, hx, hdx, ne, rfl, s0, x1, x2, x3, hq, k⟩ := h
  refine ⟨_, (pss_cons (ps_fld (pv 0) (pe_df D_members (hr.mono (by decide)) (by rfl) (pa_cons (pv 1) (pa_cons (pv 2) pa_nil))) rfl) (pss_cons (ps_fld (pv 0) (pv 1) rfl) (pss_cons (ps_fld (pv 0) (pv 2) rfl) (pss_one (ps_fld (pv 0) (pv 3) rfl))))), ?_⟩
  have g1 : Gr Hd H0 Hd (upd H0 dx (.own x)) := .newM s0 hdx
  have hx' : upd H0 dx (.own x) x = none := by rw [upd_ne ne.symm]; exact hx
  have G : Gr Hd H0 Hd (upd (upd H0 dx (.own x)) x (.ins C dx [])) := g1.trans (.newM g1.s hx')
  refine q_fld G hx (s0.free hx) upd_same rfl cl.cl cl.n1 (ed_call (ea_cons (ed_var rfl x1) (ea_cons (ed_var rfl x2) ea_nil)) ⟨q1, q2, rfl, hq.1, hq.2.1, hq.2.2.1, hq.2.2.2, rfl⟩) (by decide) fun u1 Hd1 H1 G1 s1 n1 y1 => ?_
  refine q_fld G1 hx n1 upd_same rfl cl.cl cl.n2 (ed_var rfl (x1.mono s1)) (put_lt1 u1) fun u2 Hd2 H2 G2 s2 n2 y2 => ?_
  refine q_fld G2 hx n2 upd_same rfl cl.cl cl.n3 (ed_var rfl (x2.mono (s1.trans s2))) (put_lt2 u1 u2) fun u3 Hd3 H3 G3 s3 n3 y3 => ?_
  refine s_fld G3 hx n3 upd_same rfl cl.cl cl.n4 (ed_var rfl (x3.mono ((s1.trans s2).trans s3))) (put_lt3 u1 u2 u3) fun u4 Hd4 H4 G4 s4 n4 y4 => ?_
  rw [put4]
  have G5 := G4.frz hx n4 upd_same
  rw [put4] at G5
  have sm := upd_same_new (o := HO.ins C dx [("known", u1), ("first", u2), ("second", u3), ("within", u4)]) n4
  exact k _ _ G5 ⟨dx, u1, u2, u3, u4, upd_same, (((y1.mono s2).mono s3).mono s4).mono sm, ((y2.mono s3).mono s4).mono sm, (y3.mono s4).mono sm, y4.mono sm⟩
theorem ok_agrees (D : Fm K C "agrees" "Comparison.agrees" sComparisonAgrees ["self", "pair"] f fd) (cL : Cl K C) (T : Tx mg) : Dm P w K mg base C "agrees" 1 ["self", "pair"] (spAgrees C) := by
  have cl := cL.cl
  refine D.dm (D.F.ok scComparisonAgrees (spM_len fun _ _ _ ds r ⟨_, e, _⟩ => by rw [e]; rfl) fun cdv A outer s H vs Q E hr h => ?_)
  obtain ⟨a, ws, Hd, ds, r, q1, q2, wi, rfl, s0, c, hv, ⟨p, rfl, rfl⟩, k⟩ := h
  obtain ⟨v1, _, rfl, x1, hv⟩ := hv.cons_of
  rw [hv.nil_of]
  refine ⟨_, (pss_cons (ps_set (i := 2) scComparisonAgrees.nd rfl (Or.inl rfl) (pe_cmpR (op_inK (K := K) rfl) (pe_callB (cr_lenK (K := K) rfl) (by rfl) T.mlen PySem.boot_len (pa_cons (pe_fld (pv 0) rfl) pa_nil)) (pe_ix (ix_tupK (K := K) rfl) (pv 1) pe_int (fun _ _ => rfl)) (by rfl))) (pss_cons (ps_set (i := 3) scComparisonAgrees.nd rfl (Or.inl rfl) (pe_cmpR (op_inK (K := K) rfl) (pe_callB (cr_lenK (K := K) rfl) (by rfl) T.mlen PySem.boot_len (pa_cons (pe_fld (pv 0) rfl) pa_nil)) (pe_ix (ix_tupK (K := K) rfl) (pv 1) pe_int (fun _ _ => rfl)) (by rfl))) (pss_one (ps_ret (pe_or (pe_cmpR op_eq (pv 2) (pv 3) (nomark _)) (pe_one (pe_and (pe_fld (pv 0) rfl) (pe_one (pv 3))))))))), ?_⟩
  refine q_asg (d := .bool (decide (q1.length ∈ p.1))) (.refl s0) ((ed_op (ed_cb (ea_cons (ed_first cL (eo_var rfl c)) ea_nil) rc_len) (ed_op (ed_var rfl x1) ed_int (rd_ixT (j := 0) rfl)) rd_inI).is (congrArg PyData.bool in_nat)) fun o Hd1 H1 G1 g1 xo => ?_
  refine q_asg (d := .bool (decide (q2.length ∈ p.2))) G1 ((ed_op (ed_cb (ea_cons (ed_second cL (eo_var rfl (c.mono g1.d))) ea_nil) rc_len) (ed_op (ed_var rfl (x1.mono g1.d)) ed_int (rd_ixT (j := 1) rfl)) rd_inI).is (congrArg PyData.bool in_nat)) fun t Hd2 H2 G2 g2 xt => ?_
  refine s_ret G2 ((ed_orV (ed_op (ed_var rfl (xo.mono g2.d)) (ed_var rfl xt) rd_eqB) fun _ => ed_andV (ed_within cL (eo_var rfl ((c.mono g1.d).mono g2.d))) fun _ => ed_var rfl xt).is ?_) k
  unfold agree
  cases wi <;> cases decide (q1.length ∈ p.1) <;> cases decide (q2.length ∈ p.2) <;> rfl
theorem ok_after (D : Fm K C "after" "Comparison.after" sComparisonAfter ["self", "pair", "member"] f fd) (cL : Cl K C) (T : Tx mg) (D_moved : Df P w K mg base "moved" 2 ["question", "places", "member"] spNext) : Dm P w K mg base C "after" 3 ["self", "pair", "member"] (spAfter C) := by
  have cl := cL.cl
  refine D.dm (D.F.ok scComparisonAfter (spM_len fun _ _ _ ds r ⟨_, _, e, _⟩ => by rw [e]; rfl) fun cdv A outer s H vs Q E hr h => ?_)
  obtain ⟨a, ws, Hd, ds, r, q1, q2, wi, rfl, s0, c, hv, ⟨p, m, rfl, hq, hp, rfl⟩, k⟩ := h
  obtain ⟨v1, _, rfl, x1, hv⟩ := hv.cons_of
  obtain ⟨v2, _, rfl, x2, hv⟩ := hv.cons_of
  rw [hv.nil_of]
  refine ⟨_, (pss_one (ps_ret (pe_tup (pa_cons (pe_df D_moved (hr.mono (by decide)) (by rfl) (pa_cons (pe_fld (pv 0) rfl) (pa_cons (pe_ix (ix_tupK (K := K) rfl) (pv 1) pe_int (fun _ _ => rfl)) (pa_cons (pv 2) pa_nil)))) (pa_cons (pe_df D_moved (hr.mono (by decide)) (by rfl) (pa_cons (pe_fld (pv 0) rfl) (pa_cons (pe_ix (ix_tupK (K := K) rfl) (pv 1) pe_int (fun _ _ => rfl)) (pa_cons (pv 2) pa_nil)))) pa_nil))))), ?_⟩
  exact s_ret (.refl s0) (ed_tup (ea_cons (ed_call (ea_cons (ed_first cL (eo_var rfl c)) (ea_cons (ed_op (ed_var rfl x1) ed_int (rd_ixT (j := 0) rfl)) (ea_cons (ed_var rfl x2) ea_nil))) ⟨_, _, m, rfl, hq.1.2, hp.1, rfl⟩)
    (ea_cons (ed_call (ea_cons (ed_second cL (eo_var rfl c)) (ea_cons (ed_op (ed_var rfl x1) ed_int (rd_ixT (j := 1) rfl)) (ea_cons (ed_var rfl x2) ea_nil))) ⟨_, _, m, rfl, hq.2.1.2, hp.2, rfl⟩) ea_nil))) k
theorem ok_proper_pair (D : Fm K C "is_proper_pair" "Comparison.is_proper_pair" sComparisonIsProperPair ["self", "pair"] f fd) (cL : Cl K C) (T : Tx mg) (D_are_places : Df P w K mg base "are_places" 1 ["question", "places"] spArePlaces) : Dm P w K mg base C "is_proper_pair" 2 ["self", "pair"] (spProper C) := by
  have cl := cL.cl
  refine D.dm (D.F.ok scComparisonIsProperPair (spM_len fun _ _ _ ds r ⟨_, e, _⟩ => by rw [e]; rfl) fun cdv A outer s H vs Q E hr h => ?_)
  obtain ⟨a, ws, Hd, ds, r, q1, q2, wi, rfl, s0, c, hv, ⟨p, rfl, hp, rfl⟩, k⟩ := h
  obtain ⟨v1, _, rfl, x1, hv⟩ := hv.cons_of
  rw [hv.nil_of]
  refine ⟨_, (pss_one (ps_ret (pe_and (pe_df D_are_places (hr.mono (by decide)) (by rfl) (pa_cons (pe_fld (pv 0) rfl) (pa_cons (pe_ix (ix_tupK (K := K) rfl) (pv 1) pe_int (fun _ _ => rfl)) pa_nil))) (pe_one (pe_df D_are_places (hr.mono (by decide)) (by rfl) (pa_cons (pe_fld (pv 0) rfl) (pa_cons (pe_ix (ix_tupK (K := K) rfl) (pv 1) pe_int (fun _ _ => rfl)) pa_nil))))))), ?_⟩
  exact s_ret (.refl s0) ((ed_andV (ed_call (ea_cons (ed_first cL (eo_var rfl c)) (ea_cons (ed_op (ed_var rfl x1) ed_int (rd_ixT (j := 0) rfl)) ea_nil)) ⟨_, _, rfl, (pp_all hp).1, rfl⟩) fun _ =>
    ed_call (ea_cons (ed_second cL (eo_var rfl c)) (ea_cons (ed_op (ed_var rfl x1) ed_int (rd_ixT (j := 1) rfl)) ea_nil)) ⟨_, _, rfl, (pp_all hp).2, rfl⟩).is (e := .bool true) rfl) k
theorem known_enc (q1 q2 : Qn) : chainD (mems q1 q2) = .list ((mems q1 q2).map fun m => .str (Sy.s m)) := by
  unfold chainD
  rw [List.map_map]
  rfl
theorem ok_begun (D : Fm K C "begun" "Comparison.begun" sComparisonBegun ["self"] f fd) (cL : Cl K C) (T : Tx mg) (M_after : Dm P w K mg base C "after" 3 ["self", "pair", "member"] (spAfter C)) : Dm P w K mg base C "begun" 4 ["self"] (spBegunP C) := by
  have cl := cL.cl
  refine D.dm (D.F.ok scComparisonBegun (spM_len fun _ _ _ ds r ⟨e, _⟩ => by rw [e]; rfl) fun cdv A outer s H vs Q E hr h => ?_)
  obtain ⟨a, ws, Hd, ds, r, q1, q2, wi, rfl, s0, c, hv, ⟨rfl, hq, rfl⟩, k⟩ := h
  rw [hv.nil_of]
  refine ⟨_, (pss_one (ps_ret (pe_lc (own := [("member", 1)]) rfl scComparisonBegun.nd (pi_list (pe_fld (pv 0) rfl)) (blkOk_by (own := [("member", 1)]) (N := ["self", "member"]) (sc := defScope sComparisonBegun) (by decide +kernel)) (fun _ _ _ _ _ => (pg_name (i := 1) scComparisonBegun.nd rfl (Or.inl rfl) (Or.inr rfl))) (fun _ _ _ _ _ => (pts_one (pt_cmpR op_ne (pv 1) (pe_gS (by rfl) T.mTEXT) (nomark _)))) (fun _ _ _ _ _ => (pe_tup (pa_cons (pv 1) (pa_cons (pe_dm cl M_after (hr.mono (by decide)) (pv 0) (pa_cons (pe_tup (pa_cons (pe_lst (pa_cons pe_int pa_nil)) (pa_cons (pe_lst (pa_cons pe_int pa_nil)) pa_nil))) (pa_cons (pv 1) pa_nil))) pa_nil))))))), ?_⟩
  have hml := mems_len q1 q2
  refine s_ret (.refl s0) ((ed_lcFil (fun m => .str (Sy.s m)) (fun m => dueD (m, aft q1 q2 ([0], [0]) m)) (fun m => !decide (m = Sy.hash)) (mems q1 q2) ((ed_known cL (eo_var rfl c)).is (known_enc q1 q2)) (by omega) fun Hd1 H1 u m hm x hx => ?_).is ?_) k
  · exact ⟨_, tg_name, rfl, (et_test (ed_op (ed_var rfl hx) ed_str rd_neS)).is sx_ne, fun _ => ed_tup (ea_cons (ed_var rfl hx) (ea_cons (ed_meth (eo_var rfl (c.mono u.d)) (ea_cons (ed_tup (ea_cons (ed_lst (ea_cons ed_int ea_nil)) (ea_cons (ed_lst (ea_cons ed_int ea_nil)) ea_nil))) (ea_cons (ed_var rfl hx) ea_nil)) ⟨([0], [0]), m, rfl, hq, ⟨by decide, by decide⟩, rfl⟩) ea_nil))⟩
  · unfold begun duesD due
    rw [List.filter_map, List.map_map]
    rfl
theorem ok_going_on (D : Fm K C "going_on" "Comparison.going_on" sComparisonGoingOn ["self", "pair"] f fd) (cL : Cl K C) (T : Tx mg) (M_after : Dm P w K mg base C "after" 3 ["self", "pair", "member"] (spAfter C)) : Dm P w K mg base C "going_on" 4 ["self", "pair"] (spGoing C) := by
  have cl := cL.cl
  refine D.dm (D.F.ok scComparisonGoingOn (spM_len fun _ _ _ ds r ⟨_, e, _⟩ => by rw [e]; rfl) fun cdv A outer s H vs Q E hr h => ?_)
  obtain ⟨a, ws, Hd, ds, r, q1, q2, wi, rfl, s0, c, hv, ⟨p, rfl, hq, hp, rfl⟩, k⟩ := h
  obtain ⟨v1, _, rfl, x1, hv⟩ := hv.cons_of
  rw [hv.nil_of]
  refine ⟨_, (pss_one (ps_ret (pe_lc (own := [("member", 2)]) rfl scComparisonGoingOn.nd (pi_list (pe_fld (pv 0) rfl)) (blkOk_by (own := [("member", 2)]) (N := ["self", "pair", "member"]) (sc := defScope sComparisonGoingOn) (by decide +kernel)) (fun _ _ _ _ _ => (pg_name (i := 2) scComparisonGoingOn.nd rfl (Or.inl rfl) (Or.inr rfl))) (fun _ _ _ _ _ => pts_nil) (fun _ _ _ _ _ => (pe_tup (pa_cons (pv 2) (pa_cons (pe_dm cl M_after (hr.mono (by decide)) (pv 0) (pa_cons (pv 1) (pa_cons (pv 2) pa_nil))) pa_nil))))))), ?_⟩
  have hml := mems_len q1 q2
  refine s_ret (.refl s0) ((ed_lcMap (fun m => .str (Sy.s m)) (fun m => dueD (m, aft q1 q2 p m)) (mems q1 q2) ((ed_known cL (eo_var rfl c)).is (known_enc q1 q2)) (by omega) fun Hd1 H1 u m hm x hx => ?_).is ?_) k
  · exact ⟨_, tg_name, rfl, ed_tup (ea_cons (ed_var rfl hx) (ea_cons (ed_meth (eo_var rfl (c.mono u.d)) (ea_cons (ed_var rfl (x1.mono u.d)) (ea_cons (ed_var rfl hx) ea_nil)) ⟨p, m, rfl, hq, hp, rfl⟩) ea_nil))⟩
  · unfold duesD due
    rw [List.map_map]
    rfl
theorem due_len (q1 q2 : Qn) (p : Pr) : (due q1 q2 p).length ≤ 4 := by
  unfold due
  rw [List.length_map]
  exact mems_len q1 q2
theorem begun_len (q1 q2 : Qn) : (begun q1 q2).length ≤ 4 := Nat.le_trans (List.length_filter_le _ _) (due_len q1 q2 _)
theorem flat_due_len (q1 q2 : Qn) : ∀ ps : List Pr, (ps.flatMap (due q1 q2)).length ≤ ps.length * 4
  | [] => Nat.le_refl _
  | p :: ps => by
    rw [List.flatMap_cons, List.length_append, List.length_cons]
    have := flat_due_len q1 q2 ps
    have := due_len q1 q2 p
    omega
theorem ok_accepts (D : Fm K C "accepts" "Comparison.accepts" sComparisonAccepts ["self", "paper"] f fd) (cL : Cl K C) (T : Tx mg) (M_is_proper_pair : Dm P w K mg base C "is_proper_pair" 2 ["self", "pair"] (spProper C))
    (M_begun : Dm P w K mg base C "begun" 4 ["self"] (spBegunP C)) (M_going_on : Dm P w K mg base C "going_on" 4 ["self", "pair"] (spGoing C)) (M_agrees : Dm P w K mg base C "agrees" 1 ["self", "pair"] (spAgrees C)) : Dm P w K mg base C "accepts" 5 ["self", "paper"] (spAccepts C) := by
  have cl := cL.cl
  refine D.dm (D.F.ok scComparisonAccepts (spM_len fun _ _ _ ds r ⟨_, e, _⟩ => by rw [e]; rfl) fun cdv A outer s H vs Q E hr h => ?_)
  obtain ⟨a, ws, Hd, ds, r, q1, q2, wi, rfl, s0, c, hv, ⟨ps, rfl, hq, all, few, rfl⟩, k⟩ := h
  obtain ⟨v1, _, rfl, x1, hv⟩ := hv.cons_of
  rw [hv.nil_of]
  have hu65 : (A.deeper (envOfC "Comparison.accepts" (defScope sComparisonAccepts) s.heap.objs.size f cdv)).units + 65 < cLine := by have := hr.un; omega
  refine ⟨_, (pss_cons (ps_set (i := 2) scComparisonAccepts.nd rfl (Or.inr rfl) (pe_lc (own := [("one", 5), ("two", 6)]) rfl scComparisonAccepts.nd (pi_list (pv 1)) (blkOk_by (own := [("one", 5), ("two", 6)]) (N := ["self", "paper", "pairs", "due", "pair", "one", "two", "member", "after"]) (sc := defScope sComparisonAccepts) (by decide +kernel)) (fun _ _ _ _ _ => (pg_tupK (K := K) (n := 2) rfl rfl (pgs_cons (pg_name (i := 5) scComparisonAccepts.nd rfl (Or.inl rfl) (Or.inr rfl)) (pgs_cons (pg_name (i := 6) scComparisonAccepts.nd rfl (Or.inl rfl) (Or.inr rfl)) pgs_nil)))) (fun _ _ _ _ _ => pts_nil) (fun _ _ _ _ _ => (pe_tup (pa_cons (pe_callTy (cr_listK (K := K) rfl) (by rfl) T.mlist (by decide +kernel) (pa_cons (pv 5) pa_nil)) (pa_cons (pe_callTy (cr_listK (K := K) rfl) (by rfl) T.mlist (by decide +kernel) (pa_cons (pv 6) pa_nil)) pa_nil)))))) (pss_cons (ps_if (pt_not (pt_val (pe_callB (cr_all rfl) (by rfl) T.mall (by decide +kernel) (pa_cons (pe_lc (own := [("pair", 4)]) rfl scComparisonAccepts.nd (pi_list (pv 2)) (blkOk_by (own := [("pair", 4)]) (N := ["self", "paper", "pairs", "due", "pair", "one", "two", "member", "after"]) (sc := defScope sComparisonAccepts) (by decide +kernel)) (fun _ _ _ _ _ => (pg_name (i := 4) scComparisonAccepts.nd rfl (Or.inl rfl) (Or.inr rfl))) (fun _ _ _ _ _ => pts_nil) (fun _ _ _ _ _ => (pe_dm cl M_is_proper_pair (hr.mono (by decide)) (pv 0) (pa_cons (pv 4) pa_nil)))) pa_nil)))) (pss_one (ps_ret pe_bl)) pss_nil) (pss_cons (ps_set (i := 3) scComparisonAccepts.nd rfl (Or.inl rfl) (pe_dm0 cl M_begun (hr.mono (by decide)) (pv 0))) (pss_cons (ps_for PassesOwn.never rfl (pi_list (pv 2)) (pg_name (i := 4) scComparisonAccepts.nd rfl (Or.inl rfl) (Or.inr rfl)) (pss_one (ps_set (i := 3) scComparisonAccepts.nd rfl (Or.inl rfl) (pe_op op_cat (pv 3) (pe_dm cl M_going_on (hr.mono (by decide)) (pv 0) (pa_cons (pv 4) pa_nil)))))) (pss_one (ps_ret (pe_callB (cr_all rfl) (by rfl) T.mall (by decide +kernel) (pa_cons (pe_lc (own := [("member", 7), ("after", 8)]) rfl scComparisonAccepts.nd (pi_list (pv 3)) (blkOk_by (own := [("member", 7), ("after", 8)]) (N := ["self", "paper", "pairs", "due", "pair", "one", "two", "member", "after"]) (sc := defScope sComparisonAccepts) (by decide +kernel)) (fun _ _ _ _ _ => (pg_tupK (K := K) (n := 2) rfl rfl (pgs_cons (pg_name (i := 7) scComparisonAccepts.nd rfl (Or.inl rfl) (Or.inr rfl)) (pgs_cons (pg_name (i := 8) scComparisonAccepts.nd rfl (Or.inl rfl) (Or.inr rfl)) pgs_nil)))) (fun _ _ _ _ _ => pts_nil) (fun _ _ _ _ _ => (pe_and (pe_dm cl M_agrees (hr.mono (by decide)) (pv 0) (pa_cons (pv 8) pa_nil)) (pe_one (pe_or (pe_cmpR op_eq (pv 7) (pe_gS (by rfl) T.mTEXT) (nomark _)) (pe_one (pe_cmpR (op_inDK (K := K) rfl hu65) (pv 8) (pv 2) (by rfl)))))))) pa_nil)))))))), ?_⟩
  refine q_asg (d := pairsD ps) (.refl s0) (ed_lcMap pairD pairD ps (ed_var rfl x1) (by omega) fun Hd1 H1 u p hp x hx => ?_) fun v2 Hd1 H1 G1 g1 x2 => ?_
  · obtain ⟨pa, u1, u2, rfl, hpa, z1, z2⟩ := hx.tup2
    exact ⟨_, tg_2 hpa, rfl, ed_tup (ea_cons (ed_cb (ea_cons (ed_var rfl z1) ea_nil) rc_list) (ea_cons (ed_cb (ea_cons (ed_var rfl z2) ea_nil) rc_list) ea_nil))⟩
  refine q_when (b := false) G1 ((et_not (et_B (ed_cb (ea_cons ((ed_lcMap pairD (fun _ => .bool true) ps (ed_var rfl x2) (by omega) fun Hd2 H2 u p hp x hx => ⟨_, tg_name, rfl, ed_meth (eo_var rfl ((c.mono g1.d).mono u.d)) (ea_cons (ed_var rfl hx) ea_nil) ⟨p, rfl, all p hp, rfl⟩⟩).is (e := .list ((ps.map fun _ => true).map PyData.bool)) (by rw [List.map_map]; rfl)) ea_nil) rc_all))).is ?_) (fun hb => Bool.noConfusion hb) fun _ H2 G2 g2 => ?_
  · have e : (ps.map fun _ => true).all id = true := by
      rw [List.all_map]
      exact List.all_eq_true.mpr fun _ _ => rfl
    rw [e]
    rfl
  have c2 := c.mono g1.d
  refine q_asg G2 (ed_meth (eo_var rfl c2) ea_nil ⟨rfl, hq, rfl⟩) fun v3 Hd3 H3 G3 g3 x3 => ?_
  refine q_for G3 (ed_var rfl (x2.mono g3.d)) (fun i σ Hd' H' => ∃ u a0, σ = [some (.ref a), some v1, some v2, some u, a0, none, none, none, none] ∧ Gr Hd H Hd' H' ∧ Dt Hd' u (duesD (begun q1 q2 ++ (ps.take i).flatMap (due q1 q2)))) (fun Hd' H' G4 g4 => ⟨v3, none, rfl, G4, by rw [List.take_zero, List.flatMap_nil, List.append_nil]; exact x3.mono g4.d⟩)
    (fun Hd4 sd1 i d x σ Hd' H' hi sd sh xd ⟨u, a0, hσ, G4, xu⟩ => ?_) fun σ Hd' H' sd sh ⟨u, a0, hσ, G4, xu⟩ => ?_
  · obtain ⟨p, hp, rfl⟩ := map_inj_list hi
    subst hσ
    have pin := all p (List.mem_of_getElem? hp)
    have l1 := begun_len q1 q2
    have l2 := flat_due_len q1 q2 (ps.take i)
    have l3 : (ps.take i).length ≤ ps.length := by rw [List.length_take]; omega
    refine s_asg G4 (ed_op (ed_var rfl xu) (ed_meth (eo_var rfl (c.mono G4.d)) (ea_cons (ed_var rfl xd) ea_nil) ⟨p, rfl, hq, sml_aft hq.1.2 hq.2.1.2 pin, rfl⟩) (rd_cat ?_)) fun u' Hd5 H5 G5 g5 x5 => ?_
    · rw [List.length_map, List.length_map, List.length_append]
      have := due_len q1 q2 p
      exact Nat.le_trans (by omega : _ ≤ 100000) big
    · refine ⟨Hd5, sd.trans g5.d, G5.s, u', _, rfl, G5, ?_⟩
      rw [take_succ_get hp, List.flatMap_append, ← List.append_assoc]
      unfold duesD
      rw [List.map_append, List.flatMap_singleton]
      exact x5
  · subst hσ
    have e : ps.take (ps.map pairD).length = ps := by rw [List.length_map]; exact List.take_length
    rw [e] at xu
    have l1 := begun_len q1 q2
    have l2 := flat_due_len q1 q2 ps
    have y2 : Dt Hd' v2 (pairsD ps) := x2.mono (g3.d.trans sd)
    refine s_ret G4 ((ed_cb (ea_cons ((ed_lcMap dueD (fun x => .bool (okDue wi q1 q2 ps x)) (begun q1 q2 ++ ps.flatMap (due q1 q2)) (ed_var rfl xu) (by rw [List.length_append]; omega) fun Hd5 H5 up x hx y hy => ?_).is (e := .list (((begun q1 q2 ++ ps.flatMap (due q1 q2)).map (okDue wi q1 q2 ps)).map PyData.bool)) (by rw [List.map_map]; rfl)) ea_nil) rc_all).is ?_) k
    · obtain ⟨pa, u1, u2, rfl, hpa, z1, z2⟩ := hy.tup2
      refine ⟨_, tg_2 hpa, rfl, (ed_andV (ed_meth (eo_var rfl ((c.mono G4.d).mono up.d)) (ea_cons (ed_var rfl z2) ea_nil) ⟨x.2, rfl, rfl⟩) fun _ => ed_orV (ed_op (ed_var rfl z1) ed_str rd_eqS) fun _ => ed_op (ed_var rfl z2) (ed_var rfl (y2.mono up.d)) (rd_inD ((fit_pair x.2).shaped (by decide)) ((fit_pairs ps).shaped (by decide : 3 ≤ 64)))).is ?_⟩
      rw [any_pair]
      have e : decide (x.1.s = ("#" : Str)) = decide (x.1 = .hash) := by
        show decide (x.1.s = Sy.hash.s) = _
        simp only [Sy.s_eq]
      rw [e]
      rfl
    · unfold okAll
      rw [List.all_map]
      rfl
theorem ok_search (D : Fm K C "search" "Comparison.search" sComparisonSearch ["self"] f fd) (cL : Cl K C) (T : Tx mg)
    (M_begun : Dm P w K mg base C "begun" 4 ["self"] (spBegunP C)) (M_going_on : Dm P w K mg base C "going_on" 4 ["self", "pair"] (spGoing C)) (M_agrees : Dm P w K mg base C "agrees" 1 ["self", "pair"] (spAgrees C)) : Dm P w K mg base C "search" 5 ["self"] (spSearch C) := by
  have cl := cL.cl
  refine D.dm (D.F.ok scComparisonSearch (spM_len fun _ _ _ ds r ⟨_, e, _⟩ => by rw [e]; rfl) fun cdv A outer s H vs Q E hr h => ?_)
  obtain ⟨a, ws, Hd, ds, r, q1, q2, wi, rfl, s0, c, hv, ⟨res, rfl, hq, hgo, rfl⟩, k⟩ := h
  rw [hv.nil_of]
  have hu65 : (A.deeper (envOfC "Comparison.search" (defScope sComparisonSearch) s.heap.objs.size f cdv)).units + 65 < cLine := by have := hr.un; omega
  refine ⟨_, (pss_cons (ps_set (i := 1) scComparisonSearch.nd rfl (Or.inl rfl) (pe_lst pa_nil)) (pss_cons (ps_set (i := 2) scComparisonSearch.nd rfl (Or.inl rfl) (pe_lst pa_nil)) (pss_cons (ps_set (i := 3) scComparisonSearch.nd rfl (Or.inl rfl) (pe_un un_neg pe_int)) (pss_cons (ps_while PassesOwn.never (pt_cmpR op_lt (pv 3) (pe_callB (cr_lenK (K := K) rfl) (by rfl) T.mlen PySem.boot_len (pa_cons (pv 1) pa_nil)) (nomark _)) (pss_cons (ps_set (i := 4) scComparisonSearch.nd rfl (Or.inl rfl) (pe_ifExp (pt_cmpR op_lt (pv 3) pe_int (nomark _)) (pe_dm0 cl M_begun (hr.mono (by decide)) (pv 0)) (pe_dm cl M_going_on (hr.mono (by decide)) (pv 0) (pa_cons (pe_ix (ix_listK (K := K) rfl) (pv 1) (pv 3) (fun _ _ => rfl)) pa_nil)))) (pss_cons (ps_set (i := 5) scComparisonSearch.nd rfl (Or.inl rfl) (pe_ifExp (pt_cmpR op_lt (pv 3) pe_int (nomark _)) (pe_lst pa_nil) (pe_ix (ix_listK (K := K) rfl) (pv 2) (pv 3) (fun _ _ => rfl)))) (pss_cons (ps_for PassesOwn.never rfl (pi_list (pv 4)) (pg_tupK (K := K) (n := 2) rfl rfl (pgs_cons (pg_name (i := 6) scComparisonSearch.nd rfl (Or.inl rfl) (Or.inr rfl)) (pgs_cons (pg_name (i := 7) scComparisonSearch.nd rfl (Or.inl rfl) (Or.inr rfl)) pgs_nil))) (pss_cons (ps_if (pt_not (pt_val (pe_dm cl M_agrees (hr.mono (by decide)) (pv 0) (pa_cons (pv 7) pa_nil)))) (pss_one (ps_ret (pe_tup (pa_cons pe_non (pa_cons (pe_op op_cat (pv 5) (pe_lst (pa_cons (pv 6) pa_nil))) pa_nil))))) pss_nil) (pss_one (ps_if (PW.pt (pw_and (pt_cmpR op_ne (pv 6) (pe_gS (by rfl) T.mTEXT) (nomark _)) (pw_and1 (pt_cmpR (op_niDK (K := K) rfl hu65) (pv 7) (pv 1) (by rfl))))) (pss_cons (ps_expr (pe_bm PySem.F.plainAttrs_list PySem.F.slot_list_append PySem.F.type_list_append mt_append (pv 1) (pa_cons (pv 7) pa_nil))) (pss_one (ps_expr (pe_bm PySem.F.plainAttrs_list PySem.F.slot_list_append PySem.F.type_list_append mt_append (pv 2) (pa_cons (pe_op op_cat (pv 5) (pe_lst (pa_cons (pv 6) pa_nil))) pa_nil))))) pss_nil)))) (pss_one (ps_aug (i := 3) scComparisonSearch.nd rfl (Or.inl rfl) pe_int ip_add)))))) (pss_one (ps_ret (pe_tup (pa_cons (pv 1) (pa_cons pe_non pa_nil))))))))), ?_⟩
  refine q_newL (.refl s0) fun lp hlp hdp G1 => ?_
  refine q_newL G1 fun lc hlc hdc G2 => ?_
  have ne : lp ≠ lc := fun e => by
    subst e
    rw [upd_same] at hlc
    cases hlc
  have hlc0 : H lc = none := by rwa [upd_ne ne.symm] at hlc
  have O0 : Own Hd (upd (upd H lp (.lst [])) lc (.lst [])) lp lc [] := ⟨ne, hdp, hdc, ⟨[], by rw [upd_ne ne]; exact upd_same, .nil⟩, [], upd_same, .nil⟩
  refine ⟨1, rfl, ?_⟩
  refine ⟨fun m σ H' => ∃ (i : Nat), ∃ Hd' acc a4 a5 a6 a7, σ = [some (.ref a), some (.ref lp), some (.ref lc), some (.int ((i : Int) - 1)), a4, a5, a6, a7] ∧ Gr Hd H Hd' H' ∧ Own Hd' H' lp lc acc ∧ Sz q1 q2 acc ∧ ((i ≤ acc.length ∧ go wi q1 q2 m i acc = some res) ∨ (i = acc.length + 1 ∧ res = .ok acc)),
    ⟨1026, 0, Hd, [], none, none, none, none, rfl, G2, O0, sz_nil _ _, .inl ⟨Nat.le_refl _, hgo⟩⟩, fun m σ H' ⟨i, Hd', acc, a4, a5, a6, a7, hσ, G3, O3, sz3, st⟩ => ?_⟩
  subst hσ
  obtain ⟨xs, hxs, dxs⟩ := id O3.p
  obtain ⟨ys, hys, dys⟩ := id O3.c
  have hxl : xs.length = acc.length := by rw [dxs.length, prs_len]
  have lens := sz3.few.len hq.1.2 hq.2.1.2
  refine (et_test (ed_op (ed_var rfl (.int _)) (ed_lenM rfl hxs) rd_lt)) Hd' H' (.refl G3.s) _ fun Hd4 H4 g4 => ?_
  dsimp only
  rcases st with ⟨hle, hgo⟩ | ⟨hi, hres⟩
  · rw [decide_eq_true (by omega), if_pos rfl]
    cases m with
    | zero => cases hgo
    | succ m =>
      unfold go at hgo
      have O4 := O3.gr g4
      have G4 := G3.trans g4
      have c4 := c.mono G4.d
      obtain ⟨xs4, hxs4, dxs4⟩ := id O4.p
      refine ⟨fun σ' H' => ∃ m', m' < m + 1 ∧ ∃ (i : Nat), ∃ Hd' acc a4 a5 a6 a7, σ' = [some (.ref a), some (.ref lp), some (.ref lc), some (.int ((i : Int) - 1)), a4, a5, a6, a7] ∧ Gr Hd H Hd' H' ∧ Own Hd' H' lp lc acc ∧ Sz q1 q2 acc ∧ ((i ≤ acc.length ∧ go wi q1 q2 m' i acc = some res) ∨ (i = acc.length + 1 ∧ res = .ok acc)), fun σ' H' h => h, ?_⟩
      refine q_asg (d := duesD (dueAt q1 q2 acc i)) G4 (ed_if (et_test (ed_op (ed_var rfl (.int _)) ed_int rd_lt)) (fun hb => ?_) (fun hb => ?_)) fun v4 Hd5 H5 G5 g5 x4 => ?_
      · have e : i = 0 := by
          have := of_decide_eq_true hb
          omega
        subst e
        exact ed_meth (eo_var rfl c4) ea_nil ⟨rfl, hq, rfl⟩
      · have hi0 : 0 < i := by
          have := of_decide_eq_false hb
          omega
        obtain ⟨j, rfl⟩ : ∃ j, i = j + 1 := ⟨i - 1, by omega⟩
        have hlt : j < acc.length := by omega
        have hen : acc[j]? = some acc[j] := List.getElem?_eq_getElem hlt
        have hps : (prs acc)[j]? = some (pairD acc[j].1) := by rw [List.getElem?_map, List.getElem?_map, hen]; rfl
        refine (ed_meth (eo_var rfl c4) (ea_cons (ed_ixM rfl hxs4 dxs4 ((ed_var rfl (.int _)).is (congrArg PyData.int (by omega))) hps) ea_nil) ⟨acc[j].1, rfl, hq, sml_aft hq.1.2 hq.2.1.2 (sz3.few.all _ (List.getElem_mem hlt)), rfl⟩).is ?_
        show duesD (due q1 q2 acc[j].1) = duesD (match acc[j]? with | some e => due q1 q2 e.1 | none => [])
        rw [hen]
      have O5 := O4.gr g5
      obtain ⟨ys5, hys5, dys5⟩ := id O5.c
      refine q_asg (d := chainD (chAt acc i)) G5 (ed_if (et_test (ed_op (ed_var rfl (.int _)) ed_int rd_lt)) (fun hb => ?_) (fun hb => ?_)) fun v5 Hd6 H6 G6 g6 x5 => ?_
      · have e : i = 0 := by
          have := of_decide_eq_true hb
          omega
        subst e
        exact (ed_lst ea_nil (Nat.zero_le _) : Ed _ _ _ _ (chainD []))
      · have hi0 : 0 < i := by
          have := of_decide_eq_false hb
          omega
        obtain ⟨j, rfl⟩ : ∃ j, i = j + 1 := ⟨i - 1, by omega⟩
        have hlt : j < acc.length := by omega
        have hen : acc[j]? = some acc[j] := List.getElem?_eq_getElem hlt
        have hcs : (chs acc)[j]? = some (chainD acc[j].2) := by rw [List.getElem?_map, List.getElem?_map, hen]; rfl
        refine (ed_ixM rfl hys5 dys5 ((ed_var rfl (.int _)).is (congrArg PyData.int (by omega))) hcs).is ?_
        show chainD acc[j].2 = chainD (match acc[j]? with | some e => e.2 | none => [])
        rw [hen]
      have O6 := O5.gr g6
      have c6 := c4.mono (g5.d.trans g6.d)
      refine inner_loop (w := wi) (q1 := q1) (q2 := q2) (ch := chAt acc i) (ds := dueAt q1 q2 acc i) (st := fun u v => [some (.ref a), some (.ref lp), some (.ref lc), some (.int ((i : Int) - 1)), some v4, some v5, u, v]) (vch := v5) G6 hq.1.2 hq.2.1.2 hlp hlc0 O6 sz3 (sz3.ch i) (dueAt_all q1 q2 acc i) (ed_var rfl (x4.mono g6.d)) x5
        (fun _ _ => rfl) (fun _ _ => rfl) (fun _ _ => rfl) (fun _ _ => rfl) (fun _ _ => rfl) (fun _ _ _ _ => rfl)
        (fun u y p Hd7 H7 s7 t7 z7 => ed_meth (eo_var rfl (c6.mono s7)) (ea_cons (ed_var rfl z7) ea_nil) ⟨p, rfl, rfl⟩)
        (fun ce hc v Hd7 H7 G7 x7 => ?_) (fun acc' hacc sz7 le7 u v Hd7 H7 G7 s7 O7 => ?_)
      · rw [hc] at hgo
        dsimp only at hgo
        have e : res = .error ce := (Option.some.inj hgo).symm
        subst e
        exact k v Hd7 H7 G7 x7
      · rw [hacc] at hgo
        dsimp only at hgo
        refine ⟨_, rfl, ⟨(i : Int) - 1, 1, rfl, rfl, ?_⟩⟩
        have e1 : ((i : Int) - 1) + 1 = ((i + 1 : Nat) : Int) - 1 := by omega
        by_cases hle2 : acc'.length ≤ i
        · rw [if_pos hle2] at hgo
          refine ⟨0, Nat.succ_pos _, i + 1, Hd7, acc', some v4, some v5, u, v, ?_, G7, O7, sz7, .inr ⟨by omega, (Option.some.inj hgo).symm⟩⟩
          rw [← e1]
          rfl
        · rw [if_neg hle2] at hgo
          refine ⟨m, Nat.lt_succ_self _, i + 1, Hd7, acc', some v4, some v5, u, v, ?_, G7, O7, sz7, .inl ⟨by omega, hgo⟩⟩
          rw [← e1]
          rfl
  · rw [decide_eq_false (by omega), if_neg Bool.false_ne_true]
    subst hres
    have O4 := O3.gr g4
    obtain ⟨xs4, hxs4, dxs4⟩ := id O4.p
    have G4 := (G3.trans g4).frz hlp O4.np hxs4
    exact s_ret G4 (ed_tup (ea_cons (ed_var rfl (Dt.lst upd_same (dxs4.mono (upd_same_new O4.np)))) (ea_cons ed_non ea_nil))) k
/-- what a comparison is made of, as a method's receiver -/
theorem ok_compare (D : Fd K mg "compare" sCompare ["first", "second"] f fd) (cL : Cl K C) (T : Tx mg) (D_make : Dmk P w K mg base C "Comparison" 6 ["self", "first", "second", "within"] (spInit C)) (M_search : Dm P w K mg base C "search" 5 ["self"] (spSearch C)) : Df P w K mg base "compare" 8 ["first", "second"] (spCompare false "alike" "apart") := by
  have cl := cL.cl
  refine D.df (D.F.ok scCompare (spD_len fun ds r ⟨_, _, _, e, _⟩ => by rw [e]; rfl) fun cdv A outer s H vs Q E hr h => ?_)
  obtain ⟨Hd, ds, r, s0, hv, ⟨q1, q2, res, rfl, hq, hgo, rfl⟩, k⟩ := h
  obtain ⟨v0, _, rfl, x0, hv⟩ := hv.cons_of
  obtain ⟨v1, _, rfl, x1, hv⟩ := hv.cons_of
  rw [hv.nil_of]
  refine ⟨_, (pss_cons (ps_asg (pe_dm0 cl M_search (hr.mono (by decide)) (pe_mk D_make (hr.mono (by decide)) (by rfl) (pa_cons (pv 0) (pa_cons (pv 1) (pa_cons pe_bl pa_nil))))) (pg_tupK (K := K) (n := 2) rfl rfl (pgs_cons (pg_name (i := 2) scCompare.nd rfl (Or.inl rfl) (Or.inr rfl)) (pgs_cons (pg_name (i := 3) scCompare.nd rfl (Or.inl rfl) (Or.inr rfl)) pgs_nil)))) (pss_cons (ps_if (pt_cmpR op_isN (pv 2) pe_non (nomark _)) (pss_one (ps_ret (pe_tup (pa_cons pe_str (pa_cons (pv 3) pa_nil))))) pss_nil) (pss_one (ps_ret (pe_tup (pa_cons pe_str (pa_cons (pv 2) pa_nil))))))), ?_⟩
  have hcall := ed_meth (H := H) (m := "search") (eo_make (C := C) (ea_cons (ed_var (i := 0) (σ := [some v0, some v1, none, none]) rfl x0) (ea_cons (ed_var (i := 1) rfl x1) (ea_cons (ed_bl (x := false)) ea_nil))) hq) ea_nil (f := fun q1 q2 w ds r => ∃ res, ds = [] ∧ Qs q1 q2 ∧ go w q1 q2 1026 0 [] = some res ∧ r = tellD res) ⟨res, rfl, hq, hgo, rfl⟩
  cases res with
  | error c =>
    refine q_asg2 (.refl s0) hcall fun p ch Hd1 H1 G1 g1 xp xc => ?_
    refine q_when (b := true) G1 (et_test (ed_op (ed_var rfl xp) ed_non rd_isN)) (fun _ H2 G2 g2 => ?_) fun hb => Bool.noConfusion hb
    exact s_ret G2 (ed_tup (ea_cons ed_str (ea_cons (ed_var rfl xc) ea_nil))) k
  | ok acc =>
    refine q_asg2 (.refl s0) hcall fun p ch Hd1 H1 G1 g1 xp xc => ?_
    refine q_when (b := false) G1 (et_test (ed_op (ed_var rfl xp) ed_non rd_isN)) (fun hb => Bool.noConfusion hb) fun _ H2 G2 g2 => ?_
    exact s_ret G2 (ed_tup (ea_cons ed_str (ea_cons (ed_var rfl xp) ea_nil))) k
theorem ok_compare_within (D : Fd K mg "compare_within" sCompareWithin ["first", "second"] f fd) (cL : Cl K C) (T : Tx mg) (D_make : Dmk P w K mg base C "Comparison" 6 ["self", "first", "second", "within"] (spInit C)) (M_search : Dm P w K mg base C "search" 5 ["self"] (spSearch C)) : Df P w K mg base "compare_within" 8 ["first", "second"] (spCompare true "within" "outside") := by
  have cl := cL.cl
  refine D.df (D.F.ok scCompareWithin (spD_len fun ds r ⟨_, _, _, e, _⟩ => by rw [e]; rfl) fun cdv A outer s H vs Q E hr h => ?_)
  obtain ⟨Hd, ds, r, s0, hv, ⟨q1, q2, res, rfl, hq, hgo, rfl⟩, k⟩ := h
  obtain ⟨v0, _, rfl, x0, hv⟩ := hv.cons_of
  obtain ⟨v1, _, rfl, x1, hv⟩ := hv.cons_of
  rw [hv.nil_of]
  refine ⟨_, (pss_cons (ps_asg (pe_dm0 cl M_search (hr.mono (by decide)) (pe_mk D_make (hr.mono (by decide)) (by rfl) (pa_cons (pv 0) (pa_cons (pv 1) (pa_cons pe_bl pa_nil))))) (pg_tupK (K := K) (n := 2) rfl rfl (pgs_cons (pg_name (i := 2) scCompareWithin.nd rfl (Or.inl rfl) (Or.inr rfl)) (pgs_cons (pg_name (i := 3) scCompareWithin.nd rfl (Or.inl rfl) (Or.inr rfl)) pgs_nil)))) (pss_cons (ps_if (pt_cmpR op_isN (pv 2) pe_non (nomark _)) (pss_one (ps_ret (pe_tup (pa_cons pe_str (pa_cons (pv 3) pa_nil))))) pss_nil) (pss_one (ps_ret (pe_tup (pa_cons pe_str (pa_cons (pv 2) pa_nil))))))), ?_⟩
  have hcall := ed_meth (H := H) (m := "search") (eo_make (C := C) (ea_cons (ed_var (i := 0) (σ := [some v0, some v1, none, none]) rfl x0) (ea_cons (ed_var (i := 1) rfl x1) (ea_cons (ed_bl (x := true)) ea_nil))) hq) ea_nil (f := fun q1 q2 w ds r => ∃ res, ds = [] ∧ Qs q1 q2 ∧ go w q1 q2 1026 0 [] = some res ∧ r = tellD res) ⟨res, rfl, hq, hgo, rfl⟩
  cases res with
  | error c =>
    refine q_asg2 (.refl s0) hcall fun p ch Hd1 H1 G1 g1 xp xc => ?_
    refine q_when (b := true) G1 (et_test (ed_op (ed_var rfl xp) ed_non rd_isN)) (fun _ H2 G2 g2 => ?_) fun hb => Bool.noConfusion hb
    exact s_ret G2 (ed_tup (ea_cons ed_str (ea_cons (ed_var rfl xc) ea_nil))) k
  | ok acc =>
    refine q_asg2 (.refl s0) hcall fun p ch Hd1 H1 G1 g1 xp xc => ?_
    refine q_when (b := false) G1 (et_test (ed_op (ed_var rfl xp) ed_non rd_isN)) (fun hb => Bool.noConfusion hb) fun _ H2 G2 g2 => ?_
    exact s_ret G2 (ed_tup (ea_cons ed_str (ea_cons (ed_var rfl xp) ea_nil))) k
/-- called with n written values and the others by their names -/
def DfN (P : Program) (w : World) (K : PySem.W.Frag) (mg : Str → Option Value) (base : Heap) (x : Str) (k : Nat) (ps : List Str) (n : Nat) (ks : List Str) (sp : Sp) : Prop :=
  ∃ f fd g, FnOk P w K mg base CX0 k f fd ps sp ∧ mg x = some (.ref f) ∧ PySem.W.keepIn K (.ref f) = true ∧ KBn K fd ps n ks g fun vs zs => vs ++ zs
theorem ok_accepts_paper {g : List Value → List Value → List Value} (D : FunD K "accepts_paper" "accepts_paper" (defArgs sAcceptsPaper) (defBody sAcceptsPaper) (defScope sAcceptsPaper) [.bl false] [] f fd) (hm : mg "accepts_paper" = some (.ref f)) (hb : KBn K fd ["first", "second", "paper", "within"] 3 ["within"] g fun vs zs => vs ++ zs)
    (cL : Cl K C) (T : Tx mg) (D_make : Dmk P w K mg base C "Comparison" 6 ["self", "first", "second", "within"] (spInit C)) (M_accepts : Dm P w K mg base C "accepts" 5 ["self", "paper"] (spAccepts C)) : DfN P w K mg base "accepts_paper" 8 ["first", "second", "paper", "within"] 3 ["within"] spAcceptsPaper := by
  have cl := cL.cl
  refine ⟨f, fd, g, D.ok scAcceptsPaper (spD_len fun ds r ⟨_, _, _, _, e, _⟩ => by rw [e]; rfl) fun cdv A outer s H vs Q E hr h => ?_, hm, D.kp, hb⟩
  obtain ⟨Hd, ds, r, s0, hv, ⟨q1, q2, wi, ps, rfl, hq, all, few, rfl⟩, k⟩ := h
  obtain ⟨v0, _, rfl, x0, hv⟩ := hv.cons_of
  obtain ⟨v1, _, rfl, x1, hv⟩ := hv.cons_of
  obtain ⟨v2, _, rfl, x2, hv⟩ := hv.cons_of
  obtain ⟨v3, _, rfl, x3, hv⟩ := hv.cons_of
  rw [hv.nil_of]
  refine ⟨_, (pss_one (ps_ret (pe_dm cl M_accepts (hr.mono (by decide)) (pe_mk D_make (hr.mono (by decide)) (by rfl) (pa_cons (pv 0) (pa_cons (pv 1) (pa_cons (pv 3) pa_nil)))) (pa_cons (pv 2) pa_nil)))), ?_⟩
  exact s_ret (.refl s0) (ed_meth (eo_make (ea_cons (ed_var rfl x0) (ea_cons (ed_var rfl x1) (ea_cons (ed_var rfl x3) ea_nil))) hq) (ea_cons (ed_var rfl x2) ea_nil) ⟨ps, rfl, hq, all, few, rfl⟩) k
end
end T45

/-! The questions that the law builds: the row of numbers, what is taken of it. -/
namespace T45
open PySem PySem.Spec PyProof.Rows L2
abbrev sLawMix : Stmt := top 29
theorem scLawMix : FnScope ["_law_number", "_law_k"] ["_law_number", "_law_k"] (defScope sLawMix) := ⟨rfl, rfl, rfl, by decide +kernel, rfl, by decide +kernel, by decide +kernel⟩
abbrev sLawNumbers : Stmt := top 30
theorem scLawNumbers : FnScope ["_law_script", "_law_count", "_law_row", "_law_base", "_law_cell", "_law_rest", "_law_k"] ["_law_script", "_law_count"] (defScope sLawNumbers) := ⟨rfl, rfl, rfl, by decide +kernel, rfl, by decide +kernel, by decide +kernel⟩
abbrev sLawTake : Stmt := top 31
theorem scLawTake : FnScope ["_law_row", "_law_bound"] ["_law_row", "_law_bound"] (defScope sLawTake) := ⟨rfl, rfl, rfl, by decide +kernel, rfl, by decide +kernel, by decide +kernel⟩
abbrev sLawSteps : Stmt := top 32
theorem scLawSteps : FnScope ["_law_row", "_law_steps_here", "_law_k"] ["_law_row"] (defScope sLawSteps) := ⟨rfl, rfl, rfl, by decide +kernel, rfl, by decide +kernel, by decide +kernel⟩
abbrev sLawNear : Stmt := top 42
theorem scLawNear : FnScope ["_law_row", "_law_question", "_law_k", "_law_axis", "_law_test", "_law_filters"] ["_law_row", "_law_question"] (defScope sLawNear) := ⟨rfl, rfl, rfl, by decide +kernel, rfl, by decide +kernel, by decide +kernel⟩
abbrev sLawAllChains : Stmt := top 43
theorem scLawAllChains : FnScope ["_law_known", "_law_chains", "_law_found", "_law_turn", "_law_longer", "_law_chain", "_law_member"] ["_law_known"] (defScope sLawAllChains) := ⟨rfl, rfl, rfl, by decide +kernel, rfl, by decide +kernel, by decide +kernel⟩
/-! ### with a row at l that changes -/
abbrev rowO (is : List Int) : HO := .lst (is.map V.int)
structure Gw (l : Addr) (Hd H Hd' H' : Hp) : Prop where
  d : Same Hd Hd'
  h : ∀ b o, b ≠ l → H b = some o → H' b = some o
  s : Same Hd' H'
  n : ∀ a o, Hd' a = some o → Hd a = some o ∨ H a = none
  z : Hd' l = none
section
variable {l m : Addr} {Hd H Hd' H' Hd2 H2 Hd0 H0 : Hp} {o o' : HO}
theorem Gr.gw (g : Gr Hd H Hd' H') (hd : Hd l = none) (hl : H l = some o) : Gw l Hd H Hd' H' := ⟨g.d, fun b o _ e => g.h b o e, g.s, g.n, (g.out hd hl).1⟩
theorem Gw.refl (s : Same Hd H) (hd : Hd l = none) : Gw l Hd H Hd H := ⟨Same.refl _, fun _ _ _ e => e, s, fun _ _ e => .inl e, hd⟩
theorem Gw.trans (a : Gw l Hd H Hd' H') (b : Gw l Hd' H' Hd2 H2) : Gw l Hd H Hd2 H2 where
  d := a.d.trans b.d
  h := fun x o ne e => b.h x o ne (a.h x o ne e)
  s := b.s
  n := fun x o e => (b.n x o e).elim (fun e1 => a.n x o e1) fun e1 => by
    by_cases hx : x = l
    · subst hx
      rw [b.z] at e
      cases e
    · cases q : H x with
      | none => exact .inr rfl
      | some u =>
        rw [a.h x u hx q] at e1
        cases e1
  z := b.z
/-- the row changes -/
theorem Gw.put (a : Gw l Hd H Hd' H') : Gw l Hd H Hd' (upd H' l o) where
  d := a.d
  h := fun x u ne e => by
    rw [upd_ne ne]
    exact a.h x u ne e
  s := fun x u e => by
    rw [upd_ne (ne_of_none e a.z)]
    exact a.s x u e
  n := a.n
  z := a.z
/-- another list of one's own stays -/
theorem Gw.out (g : Gw l Hd H Hd' H') (ne : m ≠ l) (hd : Hd m = none) (ho : H m = some o) : Hd' m = none ∧ H' m = some o := by
  refine ⟨?_, g.h m o ne ho⟩
  cases q : Hd' m with
  | none => rfl
  | some u =>
    rcases g.n m u q with e | e
    · rw [hd] at e
      cases e
    · rw [ho] at e
      cases e
/-- and changes -/
theorem Gw.mut (g : Gw l Hd H Hd' H') (h : H m = none) (hd : Hd' m = none) : Gw l Hd H Hd' (upd H' m o) where
  d := g.d
  h := fun b u ne q => by
    rw [upd_ne (ne_of_none q h)]
    exact g.h b u ne q
  s := fun b u q => by
    rw [upd_ne (ne_of_none q hd)]
    exact g.s b u q
  n := g.n
  z := g.z
theorem Gw.frz (g : Gw l Hd H Hd' H') (ne : m ≠ l) (h : H m = none) (hd : Hd' m = none) (ho : H' m = some o) : Gw l Hd H (upd Hd' m o) H' where
  d := g.d.trans (upd_same_new hd)
  h := g.h
  s := fun b u q => by
    by_cases hb : b = m
    · subst hb
      rw [upd_same] at q
      cases q
      exact ho
    · rw [upd_ne hb] at q
      exact g.s b u q
  n := fun b u q => by
    by_cases hb : b = m
    · subst hb
      exact .inr h
    · rw [upd_ne hb] at q
      exact g.n b u q
  z := by rw [upd_ne ne.symm]; exact g.z
end
/-- to some data, the row at l may change -/
def Er (l : Addr) (t : TE) (σ : L2.St) (Hd : Hp) (P : PyData → Prop) : Prop := ∀ Hd1 H1 is, Same Hd Hd1 → Same Hd1 H1 → Hd1 l = none → H1 l = some (rowO is) → ∀ Q : VK, (∀ v d Hd2 H2 is2, Gw l Hd1 H1 Hd2 H2 → H2 l = some (rowO is2) → Dt Hd2 v d → P d → Q v H2) → t σ H1 Q
def Era (l : Addr) (t : TA) (σ : L2.St) (Hd : Hp) (P : List PyData → Prop) : Prop := ∀ Hd1 H1 is, Same Hd Hd1 → Same Hd1 H1 → Hd1 l = none → H1 l = some (rowO is) → ∀ Q : List V → Hp → Prop, (∀ vs ds Hd2 H2 is2, Gw l Hd1 H1 Hd2 H2 → H2 l = some (rowO is2) → DtL Hd2 vs ds → P ds → Q vs H2) → t σ H1 Q
/-- the row at l gives a number below b -/
def spTake : Sp := fun vs H Q _ => ∃ l is b, vs = [.ref l, .int b] ∧ 0 < b ∧ H l = some (rowO is) ∧ ∀ r is', 0 ≤ r → r < b → Q (.int r) (upd H l (rowO is'))
section
variable {K : PySem.W.Frag} {l : Addr} {σ : L2.St} {Hd : Hp} {t ta tb : TE} {ts : TA} {P P1 P2 : PyData → Prop} {R : List PyData → Prop} {d : PyData} {r : R2} {i : Nat} {E : XK}
theorem Er.up {Hd' : Hp} (h : Er l t σ Hd P) (s : Same Hd Hd') : Er l t σ Hd' P := fun Hd1 H1 is a b c e Q q => h Hd1 H1 is (s.trans a) b c e Q q
theorem er_ed (h : ∀ Hd1 H1, Same Hd Hd1 → Same Hd1 H1 → Ed t σ H1 Hd1 d) : Er l t σ Hd (· = d) := fun Hd1 H1 is a b c e Q q =>
  h Hd1 H1 a b Hd1 H1 (.refl b) Q fun v Hd2 H2 g x => q v d Hd2 H2 is (g.gw c e) (g.h _ _ e) x rfl
theorem er_c {v : V} (x : Dt Hd v d) : Er l (tC v) σ Hd (· = d) := er_ed fun _ _ a _ => ed_c (x.mono a)
theorem er_var {v : V} (h : σ[i]? = some (some v)) (x : Dt Hd v d) : Er l (tVar i) σ Hd (· = d) := er_ed fun _ _ a _ => ed_var h (x.mono a)
theorem er_int {j : Int} : Er l (tC (.int j)) σ Hd (· = .int j) := er_c (.int j)
theorem er_str {j : Str} : Er l (tC (.str j)) σ Hd (· = .str j) := er_c (.str j)
theorem Er.imp (h : Er l t σ Hd P) (k : ∀ d, P d → P1 d) : Er l t σ Hd P1 := fun Hd1 H1 is a b c e Q q => h Hd1 H1 is a b c e Q fun v d Hd2 H2 is2 g e2 x p => q v d Hd2 H2 is2 g e2 x (k d p)
theorem er_op (ha : Er l ta σ Hd P) (hb : Er l tb σ Hd P1) (hr : ∀ d e, P d → P1 e → ∃ f, Rd2 r d e f ∧ P2 f) : Er l (tOp r ta tb) σ Hd P2 := fun Hd1 H1 is a b c e Q q =>
  ha Hd1 H1 is a b c e _ fun x d Hd2 H2 is2 g2 e2 x2 p2 => hb Hd2 H2 is2 (a.trans g2.d) g2.s g2.z e2 _ fun y f Hd3 H3 is3 g3 e3 y3 p3 => by
    obtain ⟨z, hz, pz⟩ := hr d f p2 p3
    exact hz Hd3 H3 g3.s x y (x2.mono g3.d) y3 Q fun v Hd4 H4 g4 v4 => q v z Hd4 H4 is3 ((g2.trans g3).trans (g4.gw g3.z e3)) (g4.h _ _ e3) v4 pz
theorem era_nil : Era l tNil σ Hd (· = []) := fun Hd1 H1 is a b c e Q q => q [] [] Hd1 H1 is (.refl b c) e .nil rfl
theorem era_cons (h : Er l t σ Hd P) (hr : Era l ts σ Hd R) : Era l (tCons t ts) σ Hd fun ds => ∃ d es, ds = d :: es ∧ P d ∧ R es := fun Hd1 H1 is a b c e Q q =>
  h Hd1 H1 is a b c e _ fun x d Hd2 H2 is2 g2 e2 x2 p2 => hr Hd2 H2 is2 (a.trans g2.d) g2.s g2.z e2 _ fun ys ds Hd3 H3 is3 g3 e3 y3 p3 =>
    q (x :: ys) (d :: ds) Hd3 H3 is3 (g2.trans g3) e3 (.cons (x2.mono g3.d) y3) ⟨d, ds, rfl, p2, p3⟩
theorem er_tup (h : Era l ts σ Hd R) (hz : ∀ ds, R ds → ds.length ≤ 1000) : Er l (tTup ts) σ Hd fun d => ∃ ds, d = .tuple ds ∧ R ds := fun Hd1 H1 is a b c e Q q =>
  h Hd1 H1 is a b c e _ fun xs ds Hd2 H2 is2 g2 e2 x2 p2 => ⟨by rw [x2.length]; exact Nat.le_trans (hz ds p2) (by decide), fun p hp => by
    have g : Gr Hd2 H2 (upd Hd2 p (.tup xs)) (upd H2 p (.tup xs)) := .new g2.s hp
    exact q _ _ _ _ is2 (g2.trans (g.gw g2.z e2)) (g.h _ _ e2) (.tup upd_same (x2.mono g.d)) ⟨ds, rfl, p2⟩⟩
theorem er_lst (h : Era l ts σ Hd R) (hz : ∀ ds, R ds → ds.length ≤ 1000) : Er l (tLst ts) σ Hd fun d => ∃ ds, d = .list ds ∧ R ds := fun Hd1 H1 is a b c e Q q =>
  h Hd1 H1 is a b c e _ fun xs ds Hd2 H2 is2 g2 e2 x2 p2 => ⟨by rw [x2.length]; exact Nat.le_trans (hz ds p2) (by decide), fun p hp => by
    have g : Gr Hd2 H2 (upd Hd2 p (.lst xs)) (upd H2 p (.lst xs)) := .new g2.s hp
    exact q _ _ _ _ is2 (g2.trans (g.gw g2.z e2)) (g.h _ _ e2) (.lst upd_same (x2.mono g.d)) ⟨ds, rfl, p2⟩⟩
theorem er_cb {rr : List V → Hp → VK → Prop} (h : Era l ts σ Hd R) (hr : ∀ ds, R ds → ∃ f, Rc rr ds f ∧ P f) : Er l (tCB rr ts) σ Hd P := fun Hd1 H1 is a b c e Q q =>
  h Hd1 H1 is a b c e _ fun xs ds Hd2 H2 is2 g2 e2 x2 p2 => by
    obtain ⟨f, hf, pf⟩ := hr ds p2
    exact hf Hd2 H2 g2.s xs x2 Q fun v Hd3 H3 g3 v3 => q v f Hd3 H3 is2 (g2.trans (g3.gw g2.z e2)) (g3.h _ _ e2) v3 pf
theorem er_andV (ha : Er l ta σ Hd fun d => ∃ b, d = .bool b) (hb : Er l tb σ Hd fun d => ∃ b, d = .bool b) : Er l (tAndV ta tb) σ Hd fun d => ∃ b, d = .bool b := fun Hd1 H1 is a b c e Q q =>
  ha Hd1 H1 is a b c e _ fun x d Hd2 H2 is2 g2 e2 x2 ⟨u, hu⟩ => by
    subst hu
    refine ⟨u, x2.bl_of, ?_⟩
    cases u with
    | true =>
      show tb σ H2 Q
      exact hb Hd2 H2 is2 (a.trans g2.d) g2.s g2.z e2 Q fun y f Hd3 H3 is3 g3 e3 y3 p3 => q y f Hd3 H3 is3 (g2.trans g3) e3 y3 p3
    | false =>
      show Q (.bl false) H2
      exact q _ _ Hd2 H2 is2 g2 e2 (.bl _) ⟨false, rfl⟩
/-- _law_take(row, b) -/
theorem er_take {B : Int → Prop} (hv : σ[i]? = some (some (.ref l))) (hb : Er l tb σ Hd fun d => ∃ b : Int, d = .int b ∧ B b) (pos : ∀ b, B b → 0 < b) : Er l (tCall spTake [] E (tCons (tVar i) (tCons tb tNil))) σ Hd fun d => ∃ r b : Int, d = .int r ∧ 0 ≤ r ∧ r < b ∧ B b := fun Hd1 H1 is a b c e Q q =>
  ⟨_, hv, hb Hd1 H1 is a b c e _ fun x d Hd2 H2 is2 g2 e2 x2 ⟨n, hn, bn⟩ => by
    subst hn
    rw [x2.int_of]
    exact ⟨l, is2, n, rfl, pos n bn, e2, fun r is' h0 h1 => q _ _ Hd2 _ is' g2.put upd_same (.int r) ⟨r, n, rfl, h0, h1, bn⟩⟩⟩
theorem er_takeC {n : Int} (hv : σ[i]? = some (some (.ref l))) (hn : 0 < n) : Er l (tCall spTake [] E (tCons (tVar i) (tCons (tC (.int n)) tNil))) σ Hd fun d => ∃ r : Int, d = .int r ∧ 0 ≤ r ∧ r < n :=
  (er_take (B := (· = n)) hv (er_int.imp fun d e => ⟨n, e, rfl⟩) fun b e => by rw [e]; exact hn).imp fun d ⟨r, b, e, h0, h1, hb⟩ => ⟨r, e, h0, by rw [← hb]; exact h1⟩
end

/-! ### numbers of no matter which value -/
def Ei (t : TE) (σ : L2.St) (H : Hp) : Prop := ∀ Q : VK, (∀ i : Int, Q (.int i) H) → t σ H Q
section
variable {K : PySem.W.Frag} {σ : L2.St} {H : Hp} {ta tb : TE} {n : Int} {i : Nat} {D : Ends}
theorem ei_var (h : σ[i]? = some (some (.int n))) : Ei (tVar i) σ H := fun Q q => ⟨_, h, q n⟩
theorem ei_c : Ei (tC (.int n)) σ H := fun Q q => q n
theorem ei_add (ha : Ei ta σ H) (hb : Ei tb σ H) : Ei (tOp (rI0 fun i j => .int (i + j)) ta tb) σ H := fun Q q => ha _ fun i => hb _ fun j => ⟨i, j, rfl, rfl, q _⟩
theorem ei_mulC (ha : Ei ta σ H) (h : -(2 ^ 64) < n ∧ n < 2 ^ 64) : Ei (tOp (rI CMul fun i j => .int (i * j)) ta (tC (.int n))) σ H := fun Q q => ha _ fun i => ⟨i, n, rfl, rfl, .inr h, q _⟩
theorem ei_Cmul (ha : Ei ta σ H) (h : -(2 ^ 64) < n ∧ n < 2 ^ 64) : Ei (tOp (rI CMul fun i j => .int (i * j)) (tC (.int n)) ta) σ H := fun Q q => ha _ fun i => ⟨n, i, rfl, rfl, .inl h, q _⟩
theorem ei_modC (ha : Ei ta σ H) (h : 0 < n) : Ei (tOp (rI (fun _ j => 0 < j) fun i j => .int (i % j)) ta (tC (.int n))) σ H := fun Q q => ha _ fun i => ⟨i, n, rfl, rfl, h, q _⟩
theorem ei_fdivC (ha : Ei ta σ H) (h : 0 < n ∧ n < 1073741824) : Ei (tOp (rI CDiv fun i j => .int (i / j)) ta (tC (.int n))) σ H := fun Q q => ha _ fun i => ⟨i, n, rfl, rfl, h, q _⟩
theorem ei_int1 (ha : Ei ta σ H) : Ei (tCB (fun xs H Q => (∃ i, xs = [.int i] ∧ Q (.int i) H) ∨ ∃ k, xs = [.bl k] ∧ Q (.int (if k then 1 else 0)) H) (tCons ta tNil)) σ H := fun Q q => ha _ fun i => .inl ⟨i, rfl, q i⟩
theorem s_reti {Q : VK} {nx : L2.St → Hp → Prop} (ha : Ei ta σ H) (k : ∀ r : Int, Q (.int r) H) : tRet ta { nx := nx, rt := Q } σ H := ha _ k
end
/-! ### the promises -/
def spMix : Sp := fun vs H Q _ => ∃ i j : Int, vs = [.int i, .int j] ∧ ∀ r : Int, Q (.int r) H
def spNumbers (K : PySem.W.Frag) : Sp := fun vs H Q _ => ∃ Hd a, ∃ (ns : List Int) (n : Nat), vs = [.ref a, .int (n : Int)] ∧ n ≤ 1000 ∧ Same Hd H ∧ SqL K H a (ns.map V.int) ∧ ns.length ≤ 63 ∧ ∀ l H' is, Gr Hd H Hd H' → H l = none → H' l = some (rowO is) → Q (.ref l) H'
/-- a question built -/
def Q0 (q : Qn) : Prop := Good q ∧ Plain q
def spSteps : Sp := fun vs H Q _ => ∃ Hd l is, vs = [.ref l] ∧ Same Hd H ∧ Hd l = none ∧ H l = some (rowO is) ∧ ∀ v Hd' H' is' q, Gw l Hd H Hd' H' → H' l = some (rowO is') → Dt Hd' v (quesD q) → Q0 q → Q v H'
def spNear : Sp := fun vs H Q _ => ∃ Hd l is u q, vs = [.ref l, u] ∧ Same Hd H ∧ Hd l = none ∧ H l = some (rowO is) ∧ Dt Hd u (quesD q) ∧ Q0 q ∧ ∀ v Hd' H' is' q, Gw l Hd H Hd' H' → H' l = some (rowO is') → Dt Hd' v (quesD q) → Q0 q → Q v H'
theorem upd_self {H : Hp} {l : Addr} {o : HO} (h : H l = some o) : upd H l o = H := funext fun b => by
  by_cases hb : b = l
  · subst hb
    rw [upd_same, h]
  · rw [upd_ne hb]
section
variable {K : PySem.W.Frag} {l : Addr} {σ : L2.St} {Hd : Hp} {i j : Nat} {E : XK}
theorem er_steps (hv : σ[i]? = some (some (.ref l))) : Er l (tCall spSteps [] E (tCons (tVar i) tNil)) σ Hd fun d => ∃ q, d = quesD q ∧ Q0 q := fun Hd1 H1 is a b c e Q q =>
  ⟨_, hv, Hd1, l, is, rfl, b, c, e, fun v Hd2 H2 is2 qn g e2 x p => q v _ Hd2 H2 is2 g e2 x ⟨qn, rfl, p⟩⟩
theorem er_near {u : V} {qn : Qn} (hv : σ[i]? = some (some (.ref l))) (hu : σ[j]? = some (some u)) (x : Dt Hd u (quesD qn)) (hq : Q0 qn) : Er l (tCall spNear [] E (tCons (tVar i) (tCons (tVar j) tNil))) σ Hd fun d => ∃ q, d = quesD q ∧ Q0 q := fun Hd1 H1 is a b c e Q q =>
  ⟨_, hv, _, hu, Hd1, l, is, u, qn, rfl, b, c, e, x.mono a, hq, fun v Hd2 H2 is2 qn g e2 x p => q v _ Hd2 H2 is2 g e2 x ⟨qn, rfl, p⟩⟩
end
def tests5 : List Sy := [.la, .lb, .star, .la, .hash]
theorem tests5_get {r : Int} (h0 : 0 ≤ r) (h1 : r < 5) : ∃ s, ∃ j : Nat, r = (j : Int) ∧ (tests5.map fun s => PyData.str (Sy.s s))[j]? = some (.str (Sy.s s)) ∧ s ≠ .lc := by
  obtain ⟨j, rfl⟩ : ∃ j : Nat, r = (j : Int) := ⟨r.toNat, by omega⟩
  rcases (by omega : j = 0 ∨ j = 1 ∨ j = 2 ∨ j = 3 ∨ j = 4) with e | e | e | e | e <;> subst e
  · exact ⟨.la, 0, rfl, rfl, by decide⟩
  · exact ⟨.lb, 1, rfl, rfl, by decide⟩
  · exact ⟨.star, 2, rfl, rfl, by decide⟩
  · exact ⟨.la, 3, rfl, rfl, by decide⟩
  · exact ⟨.hash, 4, rfl, rfl, by decide⟩
theorem axes_get {r : Int} (h0 : 0 ≤ r) (h1 : r < 2) : ∃ b, ∃ j : Nat, r = (j : Int) ∧ ([PyData.str "child", .str "below"] : List PyData)[j]? = some (.str (axS b)) := by
  obtain ⟨j, rfl⟩ : ∃ j : Nat, r = (j : Int) := ⟨r.toNat, by omega⟩
  rcases (by omega : j = 0 ∨ j = 1) with e | e <;> subst e
  · exact ⟨false, 0, rfl, rfl⟩
  · exact ⟨true, 1, rfl, rfl⟩
section
variable {P : Program} {w : World} {K : PySem.W.Frag} {mg : Str → Option Value} {base : Heap} {f : Addr} {fd : FuncData}
theorem ok_law_mix (D : Fd K mg "_law_mix" sLawMix ["_law_number", "_law_k"] f fd) (T : Tx mg) : Df P w K mg base "_law_mix" 1 ["_law_number", "_law_k"] spMix := by
  refine D.df (D.F.ok scLawMix (fun vs H Q E ⟨_, _, e, _⟩ => by rw [e]; rfl) fun cdv A outer s H vs Q E hr h => ?_)
  obtain ⟨i, j, rfl, k⟩ := h
  refine ⟨_, (pss_one (ps_ret (pe_op op_mod (pe_op op_mul (pe_op op_mod (pe_callTy call_int1 (by rfl) T.mint (by decide +kernel) (pa_cons (pe_op op_mul (pe_op op_add (pe_op op_add (pe_op op_mod (pe_callTy call_int1 (by rfl) T.mint (by decide +kernel) (pa_cons (pv 0) pa_nil)) pe_int) (pe_op op_mul pe_int (pv 1))) pe_int) pe_int) pa_nil)) pe_int) pe_int) pe_int))), ?_⟩
  refine s_reti (ei_modC (ei_mulC (ei_modC (ei_int1 (ei_mulC (ei_add (ei_add (ei_modC (ei_int1 (ei_var rfl)) (by decide)) (ei_Cmul (ei_var rfl) (by decide))) ei_c) (by decide))) (by decide)) (by decide)) (by decide)) k
theorem ok_law_take (D : Fd K mg "_law_take" sLawTake ["_law_row", "_law_bound"] f fd) (T : Tx mg) : Df P w K mg base "_law_take" 1 ["_law_row", "_law_bound"] spTake := by
  refine D.df (D.F.ok scLawTake (fun vs H Q E ⟨_, _, _, e, _⟩ => by rw [e]; rfl) fun cdv A outer s H vs Q E hr h => ?_)
  obtain ⟨l, is, b, rfl, hb, hl, k⟩ := h
  refine ⟨_, (pss_cons (ps_if (pt_not (pt_truth (pv 0) (by intro _; rfl))) (pss_one (ps_ret pe_int)) pss_nil) (pss_one (ps_ret (pe_op op_mod (pe_callTy call_int1 (by rfl) T.mint (by decide +kernel) (pa_cons (pe_bm0 PySem.F.plainAttrs_list PySem.F.slot_list_pop PySem.F.type_list_pop mt_pop (pv 0)) pa_nil)) (pv 1))))), ?_⟩
  refine ⟨.ref l, rfl, !is.isEmpty, .inl ⟨is.map V.int, SqL.of hl, ?_⟩, ?_⟩
  · cases is <;> rfl
  · cases is with
    | nil =>
      show Q (.int 0) H
      have := k 0 [] (Int.le_refl _) hb
      rw [upd_self hl] at this
      exact this
    | cons i r =>
      have hg : ((i :: r).map V.int)[((i :: r).map V.int).length - 1]? = some (.int ((i :: r).getLast (by simp))) := by
        rw [List.length_map, List.getElem?_map, ← List.getLast?_eq_getElem?, List.getLast?_eq_some_getLast (by simp)]
        rfl
      refine ⟨_, rfl, .inl ⟨rfl, _, SqL.of hl⟩, l, _, _, rfl, rfl, hl, hg, .inl ⟨_, rfl, ?_⟩⟩
      refine ⟨_, rfl, _, _, rfl, rfl, hb, ?_⟩
      have e : ((i :: r).map V.int).dropLast = ((i :: r).dropLast).map V.int := (List.map_dropLast).symm
      rw [e]
      exact k _ _ (Int.emod_nonneg _ (by omega)) (Int.emod_lt_of_pos _ hb)

/-- a row of one's own grows by some number -/
theorem s_appI {σ : L2.St} {Hd H Hd0 H0 : Hp} {D : Ends} {te : TE} {i : Nat} {l : Addr} {is : List Int} (G : Gr Hd0 H0 Hd H) (l0 : H0 l = none) (hd : Hd l = none) (hl : H l = some (rowO is)) (hv : σ[i]? = some (some (.ref l))) (h : Ei te σ H) (hz : is.length < 1000000)
    (k : ∀ r H', Gr Hd0 H0 Hd H' → H' l = some (rowO (is ++ [r])) → D.nx σ H') : tDrop (tBM K "list" rAppend (tVar i) (tCons te tNil)) D σ H :=
  ⟨_, hv, .inl ⟨rfl, _, SqL.of hl⟩, h _ fun r => ⟨l, _, _, rfl, rfl, hl, Nat.lt_of_lt_of_le (by rw [List.length_map]; exact hz) (by decide), k r _ (G.mut l0 hd) (by rw [upd_same]; show some (HO.lst (is.map V.int ++ [V.int r])) = some (HO.lst ((is ++ [r]).map V.int)); rw [List.map_append]; rfl)⟩⟩
theorem q_appI {σ : L2.St} {Hd H Hd0 H0 : Hp} {D : Ends} {tz : TS} {te : TE} {i : Nat} {l : Addr} {is : List Int} (G : Gr Hd0 H0 Hd H) (l0 : H0 l = none) (hd : Hd l = none) (hl : H l = some (rowO is)) (hv : σ[i]? = some (some (.ref l))) (h : Ei te σ H) (hz : is.length < 1000000)
    (k : ∀ r H', Gr Hd0 H0 Hd H' → H' l = some (rowO (is ++ [r])) → tz D σ H') : tSeq (tDrop (tBM K "list" rAppend (tVar i) (tCons te tNil))) tz D σ H := s_appI (D := { D with nx := tz D }) G l0 hd hl hv h hz k
theorem q_asgI {σ : L2.St} {H : Hp} {D : Ends} {tz : TS} {te : TE} {i : Nat} (h : Ei te σ H) (k : ∀ r : Int, tz D (σ.set i (some (.int r))) H) : tSeq (tAsg te (gName i)) tz D σ H := h _ k
theorem ei_mix {σ : L2.St} {H : Hp} {ta tb : TE} {E : XK} (ha : Ei ta σ H) (hb : Ei tb σ H) : Ei (tCall spMix [] E (tCons ta (tCons tb tNil))) σ H := fun Q q => ha _ fun i => hb _ fun j => ⟨i, j, rfl, q⟩
theorem sql_mono {K : PySem.W.Frag} {H H' : Hp} {a : Addr} {xs : List V} (h : SqL K H a xs) (e : Same H H') : SqL K H' a xs :=
  h.elim (fun h => .inl (h.elim (fun h => .inl (e _ _ h)) fun ⟨o, h⟩ => .inr ⟨o, e _ _ h⟩)) fun h => .inr h
theorem cut_ints (ns : List Int) (lo hi : Option Int) : ∃ ns' : List Int, cutV (ns.map V.int) lo hi = ns'.map V.int ∧ ns'.length ≤ ns.length := by
  refine ⟨(ns.drop (HT.sIx (ns.map V.int).length 0 lo)).take (HT.sIx (ns.map V.int).length (ns.map V.int).length hi - HT.sIx (ns.map V.int).length 0 lo), ?_, ?_⟩
  · unfold cutV
    rw [← List.map_drop, ← List.map_take]
  · rw [List.length_take, List.length_drop]
    omega
/-- script[:63] -/
theorem ed_cut {σ : L2.St} {H Hd : Hp} {a : Addr} {ns : List Int} {i : Nat} {lo hi : Option Int} {tl th : TO} (hv : σ[i]? = some (some (.ref a))) (h : SqL K H a (ns.map V.int)) (h1 : ∀ H Q, Q lo H → tl σ H Q) (h2 : ∀ H Q, Q hi H → th σ H Q) : ∃ ns' : List Int, ns'.length ≤ ns.length ∧ Ed (tSl (rSlL K) (tVar i) tl th) σ H Hd (.list (ns'.map PyData.int)) := by
  obtain ⟨ns', e, hl⟩ := cut_ints ns lo hi
  refine ⟨ns', hl, fun Hd1 H1 u Q q => ⟨_, hv, h1 _ _ (h2 _ _ ⟨a, _, rfl, sql_mono h u.h, fun p hp => ?_⟩)⟩⟩
  rw [e]
  have g : Gr Hd1 H1 (upd Hd1 p (.lst (ns'.map V.int))) (upd H1 p (.lst (ns'.map V.int))) := .new u.s hp
  exact q _ _ _ g (.lst upd_same (.of_ints _))
theorem ok_law_numbers (D : Fd K mg "_law_numbers" sLawNumbers ["_law_script", "_law_count"] f fd) (T : Tx mg) (D__law_mix : Df P w K mg base "_law_mix" 1 ["_law_number", "_law_k"] spMix) : Df P w K mg base "_law_numbers" 2 ["_law_script", "_law_count"] (spNumbers K) := by
  refine D.df (D.F.ok scLawNumbers (fun vs H Q E ⟨_, _, _, _, e, _⟩ => by rw [e]; rfl) fun cdv A outer s H vs Q E hr h => ?_)
  obtain ⟨Hd, a, ns, n, rfl, hn, s0, sq, hns, k⟩ := h
  refine ⟨_, (pss_cons (ps_set (i := 2) scLawNumbers.nd rfl (Or.inl rfl) (pe_lst pa_nil)) (pss_cons (ps_set (i := 3) scLawNumbers.nd rfl (Or.inl rfl) pe_int) (pss_cons (ps_for PassesOwn.never rfl (pi_list (pe_slice sl_list (pv 0) po_none (po_some pe_int))) (pg_name (i := 4) scLawNumbers.nd rfl (Or.inl rfl) (Or.inr rfl)) (pss_cons (ps_set (i := 3) scLawNumbers.nd rfl (Or.inl rfl) (pe_op op_add (pv 3) (pv 4))) (pss_one (ps_if (pt_cmpR op_ge (pv 4) pe_int (nomark _)) (pss_cons (ps_set (i := 5) scLawNumbers.nd rfl (Or.inl rfl) (pv 4)) (pss_one (ps_for PassesOwn.never rfl (pi_range1 rfl T.mrange (pa_cons pe_int pa_nil)) (pg_name (i := 6) scLawNumbers.nd rfl (Or.inl rfl) (Or.inr rfl)) (pss_cons (ps_expr (pe_bm PySem.F.plainAttrs_list PySem.F.slot_list_append PySem.F.type_list_append mt_append (pv 2) (pa_cons (pe_op op_mod (pe_callTy call_int1 (by rfl) T.mint (by decide +kernel) (pa_cons (pv 5) pa_nil)) pe_int) pa_nil))) (pss_cons (ps_set (i := 5) scLawNumbers.nd rfl (Or.inl rfl) (pe_op op_fdiv (pv 5) pe_int)) (pss_one (ps_if (pt_cmpR op_eq (pv 5) pe_int (nomark _)) (pss_one ps_break) pss_nil))))))) (pss_one (ps_expr (pe_bm PySem.F.plainAttrs_list PySem.F.slot_list_append PySem.F.type_list_append mt_append (pv 2) (pa_cons (pe_df D__law_mix (hr.mono (by decide)) (by rfl) (pa_cons (pe_df D__law_mix (hr.mono (by decide)) (by rfl) (pa_cons (pv 4) (pa_cons pe_int pa_nil))) (pa_cons pe_int pa_nil))) pa_nil)))))))) (pss_cons (ps_for PassesOwn.never rfl (pi_range1 rfl T.mrange (pa_cons (pv 1) pa_nil)) (pg_name (i := 6) scLawNumbers.nd rfl (Or.inl rfl) (Or.inr rfl)) (pss_one (ps_expr (pe_bm PySem.F.plainAttrs_list PySem.F.slot_list_append PySem.F.type_list_append mt_append (pv 2) (pa_cons (pe_df D__law_mix (hr.mono (by decide)) (by rfl) (pa_cons (pe_df D__law_mix (hr.mono (by decide)) (by rfl) (pa_cons (pe_op op_add (pv 3) (pe_op op_mul pe_int (pv 6))) (pa_cons (pe_op op_add pe_int (pv 6)) pa_nil))) (pa_cons pe_int pa_nil))) pa_nil))))) (pss_cons (ps_expr (pe_bm0 PySem.F.plainAttrs_list PySem.F.slot_list_reverse PySem.F.type_list_reverse mt_reverse (pv 2))) (pss_one (ps_ret (pv 2)))))))), ?_⟩
  refine q_newL (.refl s0) fun l hl hdl G1 => ?_
  refine q_asg G1 ed_int fun v3 Hd1 H1 G2 g2 x3 => ?_
  rw [x3.int_of]
  obtain ⟨m1, m2⟩ := g2.out hdl upd_same
  obtain ⟨ns', hns', hcut⟩ := ed_cut (K := K) (Hd := Hd1) (i := 0) (lo := none) (hi := some 63) (tl := tNoPart) (th := tPart (tC (.int 63))) (σ := [some (.ref a), some (.int (n : Int)), some (.ref l), some (.int 0), none, none, none]) rfl (sql_mono sq G2.h) (fun _ _ h => h) (fun _ _ h => ⟨63, rfl, h⟩)
  refine q_for G2 hcut (fun i σ Hd' H' => ∃ (b : Int), ∃ a4 a5 a6 is, σ = [some (.ref a), some (.int (n : Int)), some (.ref l), some (.int b), a4, a5, a6] ∧ Gr Hd H Hd' H' ∧ Hd' l = none ∧ H' l = some (rowO is) ∧ is.length ≤ 60 * i)
    (fun Hd' H' G3 g3 => ?_) (fun Hd3 sd3 i d x σ Hd' H' hi sd sh xd ⟨b, a4, a5, a6, is, hσ, G3, n1, n2, hlen⟩ => ?_) fun σ Hd' H' sd sh ⟨b, a4, a5, a6, is, hσ, G3, n1, n2, hlen⟩ => ?_
  · obtain ⟨n1, n2⟩ := g3.out m1 m2
    exact ⟨0, none, none, none, [], rfl, G3, n1, n2, Nat.zero_le _⟩
  · obtain ⟨c, hc, rfl⟩ := map_inj_list hi
    have hi63 : i < 63 := Nat.lt_of_lt_of_le (List.getElem?_eq_some_iff.mp hc).1 (Nat.le_trans hns' hns)
    subst hσ
    rw [xd.int_of]
    refine q_asgI (ei_add (ei_var rfl) (ei_var rfl)) fun b' => ?_
    refine s_if G3 (et_test (ed_op (ed_var rfl (.int c)) ed_int rd_ge)) (fun hb H4 G4 g4 => ?_) (fun hb H4 G4 g4 => ?_)
    · refine q_asgI (ei_var rfl) fun r => ?_
      refine s_forR (n := 60) G4 (ea_cons ed_int ea_nil) (by decide) (fun j σ Hd' H' => ∃ (r : Int), ∃ a6 is, σ = [some (.ref a), some (.int (n : Int)), some (.ref l), some (.int b'), some (.int c), some (.int r), a6] ∧ Gr Hd H Hd' H' ∧ Hd' l = none ∧ H' l = some (rowO is) ∧ is.length ≤ 60 * i + j)
        (fun H5 G5 g5 => ⟨r, _, is, rfl, G5, n1, g5.h _ _ (g4.h _ _ n2), hlen⟩) (fun j σ Hd5 H5 hj sd5 sh5 ⟨r, a6, is, hσ, G5, n1, n2, hlen⟩ => ?_) fun σ Hd5 H5 sd5 sh5 ⟨r, a6, is, hσ, G5, n1, n2, hlen⟩ => ?_
      · subst hσ
        refine q_appI G5 hl n1 n2 rfl (ei_modC (ei_int1 (ei_var rfl)) (by decide)) (by omega) fun r1 H6 G6 n6 => ?_
        refine q_asgI (ei_fdivC (ei_var rfl) (by decide)) fun r2 => ?_
        refine s_when G6 (et_test (ed_op (ed_var rfl (.int r2)) ed_int rd_eqI)) (fun _ H7 G7 g7 => ?_) (fun _ H7 G7 g7 => ?_)
        · exact ⟨Hd5, sd.trans sd5, G7.s, b', _, _, _, is ++ [r1], rfl, G7, n1, g7.h _ _ n6, by rw [List.length_append, List.length_singleton]; omega⟩
        · exact ⟨Hd5, sd5, G7.s, r2, _, is ++ [r1], rfl, G7, n1, g7.h _ _ n6, by rw [List.length_append, List.length_singleton]; omega⟩
      · subst hσ
        exact ⟨Hd5, sd.trans sd5, sh5, b', _, _, _, is, rfl, G5, n1, n2, by omega⟩
    · refine s_appI G4 hl n1 (g4.h _ _ n2) rfl (ei_mix (ei_mix (ei_var rfl) ei_c) ei_c) (by omega) fun r1 H6 G6 n6 => ?_
      exact ⟨Hd', sd, G6.s, b', _, _, _, is ++ [r1], rfl, G6, n1, n6, by rw [List.length_append, List.length_singleton]; omega⟩
  · subst hσ
    rw [List.length_map] at hlen
    refine q_forR (n := n) G3 (ea_cons (ed_var rfl (.int _)) ea_nil) hn (fun j σ Hd' H' => ∃ a4 a5 a6 is, σ = [some (.ref a), some (.int (n : Int)), some (.ref l), some (.int b), a4, a5, a6] ∧ Gr Hd H Hd' H' ∧ Hd' l = none ∧ H' l = some (rowO is) ∧ is.length ≤ 4000 + j)
      (fun H5 G5 g5 => ⟨_, _, _, is, rfl, G5, n1, g5.h _ _ n2, by omega⟩) (fun j σ Hd5 H5 hj sd5 sh5 ⟨a4, a5, a6, is, hσ, G5, n1, n2, hlen⟩ => ?_) fun σ Hd5 H5 sd5 sh5 ⟨a4, a5, a6, is, hσ, G5, n1, n2, hlen⟩ => ?_
    · subst hσ
      refine s_appI G5 hl n1 n2 rfl (ei_mix (ei_mix (ei_add (ei_var rfl) (ei_Cmul (ei_var rfl) (by decide))) (ei_add ei_c (ei_var rfl))) ei_c) (by omega) fun r1 H6 G6 n6 => ?_
      exact ⟨Hd5, sd5, G6.s, _, _, _, is ++ [r1], rfl, G6, n1, n6, by rw [List.length_append, List.length_singleton]; omega⟩
    · subst hσ
      refine ⟨_, rfl, .inl ⟨rfl, _, SqL.of n2⟩, l, _, rfl, rfl, n2, ?_⟩
      refine ⟨_, rfl, ?_⟩
      have e : (is.map V.int).reverse = (is.reverse).map V.int := (List.map_reverse ..).symm
      rw [e]
      have G6 : Gr Hd H Hd5 (upd H5 l (rowO is.reverse)) := G5.mut hl n1
      have G7 : Gr Hd H Hd (upd H5 l (rowO is.reverse)) := G6.up.no
      exact k l _ _ G7 hl upd_same
theorem ok_law_steps (D : Fd K mg "_law_steps" sLawSteps ["_law_row"] f fd) (T : Tx mg) (D__law_take : Df P w K mg base "_law_take" 1 ["_law_row", "_law_bound"] spTake) : Df P w K mg base "_law_steps" 2 ["_law_row"] spSteps := by
  refine D.df (D.F.ok scLawSteps (fun vs H Q E ⟨_, _, _, e, _⟩ => by rw [e]; rfl) fun cdv A outer s H vs Q E hr h => ?_)
  obtain ⟨Hd, l, is, rfl, s0, hdl, hl, k⟩ := h
  refine ⟨_, (pss_cons (ps_set (i := 1) scLawSteps.nd rfl (Or.inl rfl) (pe_lst pa_nil)) (pss_cons (ps_for PassesOwn.never rfl (pi_range1 rfl T.mrange (pa_cons (pe_op op_add pe_int (pe_df D__law_take (hr.mono (by decide)) (by rfl) (pa_cons (pv 0) (pa_cons pe_int pa_nil)))) pa_nil)) (pg_name (i := 2) scLawSteps.nd rfl (Or.inl rfl) (Or.inr rfl)) (pss_one (ps_expr (pe_bm PySem.F.plainAttrs_list PySem.F.slot_list_append PySem.F.type_list_append mt_append (pv 1) (pa_cons (pe_tup (pa_cons (pe_ix (ix_listK (K := K) rfl) (pe_lst (pa_cons pe_str (pa_cons pe_str pa_nil))) (pe_df D__law_take (hr.mono (by decide)) (by rfl) (pa_cons (pv 0) (pa_cons pe_int pa_nil))) (fun _ _ => rfl)) (pa_cons (pe_ix (ix_listK (K := K) rfl) (pe_lst (pa_cons pe_str (pa_cons pe_str (pa_cons pe_str (pa_cons pe_str (pa_cons pe_str pa_nil)))))) (pe_df D__law_take (hr.mono (by decide)) (by rfl) (pa_cons (pv 0) (pa_cons (pe_op op_sub pe_int (pe_callTy call_int1 (by rfl) T.mint (by decide +kernel) (pa_cons (pe_and (pe_cmpR op_lt (pv 2) pe_int (nomark _)) (pe_one (pe_cmpR op_gt (pe_df D__law_take (hr.mono (by decide)) (by rfl) (pa_cons (pv 0) (pa_cons pe_int pa_nil))) pe_int (nomark _)))) pa_nil))) pa_nil))) (fun _ _ => rfl)) (pa_cons (pe_lst pa_nil) pa_nil)))) pa_nil))))) (pss_one (ps_ret (pv 1))))), ?_⟩
  refine q_newL (.refl s0) fun l2 hl2 hdl2 G1 => ?_
  have ne : l2 ≠ l := fun e => by
    subst e
    rw [hl] at hl2
    cases hl2
  have hrow : upd H l2 (.lst []) l = some (rowO is) := by rw [upd_ne ne.symm]; exact hl
  have W1 : Gw l Hd H Hd (upd H l2 (.lst [])) := G1.gw hdl hl
  unfold tSeq tFor iRng1
  refine (era_cons (er_op (P2 := fun d => ∃ r : Int, d = .int (1 + r) ∧ 0 ≤ r ∧ r < 4) er_int (er_takeC (i := 0) (n := 4) (σ := [some (.ref l), some (.ref l2), none]) rfl (by decide)) (fun d e hd ⟨r, he, h0, h1⟩ => by subst hd; subst he; exact ⟨_, rd_add, r, rfl, h0, h1⟩)) era_nil) Hd _ is (Same.refl _) G1.s hdl hrow _ fun vs ds Hd2 H2 is2 g2 e2 x2 ⟨d, es, hds, ⟨r, hd, h0, h1⟩, hes⟩ => ?_
  subst hds
  subst hd
  subst hes
  obtain ⟨v, ws, rfl, y1, x2⟩ := x2.cons_of
  rw [x2.nil_of, y1.int_of]
  refine ⟨1 + r, rfl, by omega, by omega, ?_⟩
  obtain ⟨c1, c2⟩ := g2.out ne hdl2 upd_same
  refine for_range (lo := 0) (n := (1 + r).toNat) (fun i σ' H' => ∃ Hd' is q a, σ' = [some (.ref l), some (.ref l2), a] ∧ Gw l Hd H Hd' H' ∧ H' l = some (rowO is) ∧ Hd' l2 = none ∧ (∃ xs, H' l2 = some (.lst xs) ∧ DtL Hd' xs (q.map stepD)) ∧ q.length = i ∧ Plain q)
    ⟨Hd2, is2, [], none, rfl, W1.trans g2, e2, c1, ⟨[], c2, .nil⟩, rfl, fun s hs => by cases hs⟩ (fun i σ' H' hi ⟨Hd', is, q, a, hσ, W3, e3, n1, ⟨xs, n2, hx⟩, hq, pq⟩ => ?_) fun σ' H' ⟨Hd', is, q, a, hσ, W3, e3, n1, ⟨xs, n2, hx⟩, hq, pq⟩ => ?_
  · subst hσ
    rw [Int.zero_add]
    have step : Er l (tTup (tCons (tOp (rIxL K) (tLst (tCons (tC (.str "child")) (tCons (tC (.str "below")) tNil))) (tCall spTake [] E0 (tCons (tVar 0) (tCons (tC (.int 2)) tNil))))
        (tCons (tOp (rIxL K) (tLst (tCons (tC (.str "a")) (tCons (tC (.str "b")) (tCons (tC (.str "*")) (tCons (tC (.str "a")) (tCons (tC (.str "#")) tNil))))))
          (tCall spTake [] E0 (tCons (tVar 0) (tCons (tOp (rI0 fun i j => .int (i - j)) (tC (.int 5)) (tCB (fun xs H Q => (∃ i, xs = [.int i] ∧ Q (.int i) H) ∨ ∃ k, xs = [.bl k] ∧ Q (.int (if k then 1 else 0)) H) (tCons (tAndV (tOp (rI0 fun i j => .bl (decide (i < j))) (tVar 2) (tC (.int 3)))
            (tOp (rI0 fun i j => .bl (decide (j < i))) (tCall spTake [] E0 (tCons (tVar 0) (tCons (tC (.int 4)) tNil))) (tC (.int 0)))) tNil))) tNil)))) (tCons (tLst tNil) tNil)))) [some (.ref l), some (.ref l2), some (.int (i : Int))] Hd' fun d => ∃ st : Bool × Sy, d = stepD st ∧ st.2 ≠ .lc := by
      have h1 : Er l (tOp (rIxL K) (tLst (tCons (tC (.str "child")) (tCons (tC (.str "below")) tNil))) (tCall spTake [] E0 (tCons (tVar 0) (tCons (tC (.int 2)) tNil)))) [some (.ref l), some (.ref l2), some (.int (i : Int))] Hd' fun d => ∃ b, d = .str (axS b) := by
        refine er_op (er_lst (era_cons er_str (era_cons er_str era_nil)) (fun ds h => ?_)) (er_takeC rfl (by decide)) fun d e ⟨ds, hd, h⟩ ⟨r, he, h0, h1⟩ => ?_
        · obtain ⟨d1, e1, rfl, rfl, d2, e2, rfl, rfl, rfl⟩ := h
          show 2 ≤ 1000
          decide
        · obtain ⟨d1, e1, rfl, rfl, d2, e2, rfl, rfl, rfl⟩ := h
          subst hd
          subst he
          obtain ⟨b, j, rfl, hj⟩ := axes_get h0 h1
          exact ⟨_, rd_ixL hj, b, rfl⟩
      have h2 : Er l (tOp (rIxL K) (tLst (tCons (tC (.str "a")) (tCons (tC (.str "b")) (tCons (tC (.str "*")) (tCons (tC (.str "a")) (tCons (tC (.str "#")) tNil))))))
          (tCall spTake [] E0 (tCons (tVar 0) (tCons (tOp (rI0 fun i j => .int (i - j)) (tC (.int 5)) (tCB (fun xs H Q => (∃ i, xs = [.int i] ∧ Q (.int i) H) ∨ ∃ k, xs = [.bl k] ∧ Q (.int (if k then 1 else 0)) H) (tCons (tAndV (tOp (rI0 fun i j => .bl (decide (i < j))) (tVar 2) (tC (.int 3)))
            (tOp (rI0 fun i j => .bl (decide (j < i))) (tCall spTake [] E0 (tCons (tVar 0) (tCons (tC (.int 4)) tNil))) (tC (.int 0)))) tNil))) tNil)))) [some (.ref l), some (.ref l2), some (.int (i : Int))] Hd' fun d => ∃ s : Sy, d = .str (Sy.s s) ∧ s ≠ .lc := by
        have hk : Er l (tAndV (tOp (rI0 fun i j => .bl (decide (i < j))) (tVar 2) (tC (.int 3))) (tOp (rI0 fun i j => .bl (decide (j < i))) (tCall spTake [] E0 (tCons (tVar 0) (tCons (tC (.int 4)) tNil))) (tC (.int 0)))) [some (.ref l), some (.ref l2), some (.int (i : Int))] Hd' fun d => ∃ b, d = .bool b :=
          er_andV (er_op (er_var rfl (.int _)) er_int fun d e hd he => by subst hd; subst he; exact ⟨_, rd_lt, _, rfl⟩) (er_op (er_takeC rfl (by decide)) er_int fun d e ⟨r, hd, _⟩ he => by subst hd; subst he; exact ⟨_, rd_gt, _, rfl⟩)
        have hb : Er l (tOp (rI0 fun i j => .int (i - j)) (tC (.int 5)) (tCB (fun xs H Q => (∃ i, xs = [.int i] ∧ Q (.int i) H) ∨ ∃ k, xs = [.bl k] ∧ Q (.int (if k then 1 else 0)) H) (tCons (tAndV (tOp (rI0 fun i j => .bl (decide (i < j))) (tVar 2) (tC (.int 3)))
            (tOp (rI0 fun i j => .bl (decide (j < i))) (tCall spTake [] E0 (tCons (tVar 0) (tCons (tC (.int 4)) tNil))) (tC (.int 0)))) tNil))) [some (.ref l), some (.ref l2), some (.int (i : Int))] Hd' fun d => ∃ b : Int, d = .int b ∧ (0 < b ∧ b ≤ 5) := by
          refine er_op er_int (er_cb (P := fun d => ∃ b : Bool, d = .int (if b then 1 else 0)) (era_cons hk era_nil) fun ds ⟨d, es, hds, ⟨b, hd⟩, hes⟩ => ?_) fun d e hd ⟨b, he⟩ => ?_
          · subst hds
            subst hd
            subst hes
            refine ⟨_, fun Hd1 H1 s1 xs hx Q q => ?_, b, rfl⟩
            obtain ⟨v, ws, rfl, h1, h2⟩ := hx.cons_of
            rw [h2.nil_of, h1.bl_of]
            exact .inr ⟨b, rfl, q _ Hd1 H1 (.refl s1) (.int _)⟩
          · subst hd
            subst he
            refine ⟨_, rd_sub, _, rfl, ?_⟩
            cases b <;> decide
        refine er_op (er_lst (era_cons er_str (era_cons er_str (era_cons er_str (era_cons er_str (era_cons er_str era_nil))))) (fun ds h => ?_)) (er_take rfl hb fun b h => h.1) fun d e ⟨ds, hd, h⟩ ⟨r, b, he, h0, h1, h2⟩ => ?_
        · obtain ⟨d1, e1, rfl, rfl, d2, e2, rfl, rfl, d3, e3, rfl, rfl, d4, e4, rfl, rfl, d5, e5, rfl, rfl, rfl⟩ := h
          show 5 ≤ 1000
          decide
        · obtain ⟨d1, e1, rfl, rfl, d2, e2, rfl, rfl, d3, e3, rfl, rfl, d4, e4, rfl, rfl, d5, e5, rfl, rfl, rfl⟩ := h
          subst hd
          subst he
          obtain ⟨s, j, rfl, hj, hs⟩ := tests5_get h0 (by omega)
          exact ⟨_, rd_ixL hj, s, rfl, hs⟩
      refine (er_tup (era_cons h1 (era_cons h2 (era_cons (er_lst era_nil fun ds h => by subst h; exact Nat.zero_le _) era_nil))) fun ds h => ?_).imp fun d ⟨ds, hd, h⟩ => ?_
      · obtain ⟨d1, e1, rfl, ⟨b, rfl⟩, d2, e2, rfl, ⟨s, rfl, hs⟩, d3, e3, rfl, ⟨es, rfl, rfl⟩, rfl⟩ := h
        show 3 ≤ 1000
        decide
      · obtain ⟨d1, e1, rfl, ⟨b, rfl⟩, d2, e2, rfl, ⟨s, rfl, hs⟩, d3, e3, rfl, ⟨es, rfl, rfl⟩, rfl⟩ := h
        subst hd
        exact ⟨(b, s), rfl, hs⟩
    refine ⟨_, rfl, .inl ⟨rfl, xs, SqL.of n2⟩, step Hd' H' is (Same.refl _) W3.s W3.z e3 _ fun v d Hd4 H4 is4 g4 e4 x4 ⟨st, hd, hst⟩ => ?_⟩
    subst hd
    obtain ⟨k1, k2⟩ := g4.out ne n1 n2
    have hxl : xs.length = q.length := by rw [hx.length, List.length_map]
    refine ⟨l2, xs, v, rfl, rfl, k2, Nat.lt_of_lt_of_le (by omega : xs.length < 1000000) (by decide), Hd4, is4, q ++ [st], _, rfl, (W3.trans g4).mut hl2 k1, by rw [upd_ne ne.symm]; exact e4, k1, ⟨xs ++ [v], upd_same, ?_⟩, by rw [List.length_append, hq]; rfl, ?_⟩
    · rw [List.map_append]
      exact (hx.mono g4.d).append (.one x4)
    · intro s hs
      rcases List.mem_append.mp hs with h | h
      · exact pq s h
      · rw [List.mem_singleton.mp h]
        exact hst
  · subst hσ
    refine ⟨_, rfl, ?_⟩
    exact k _ _ _ is q (W3.frz ne hl2 n1 n2) e3 (.lst upd_same (hx.mono (upd_same_new n1))) ⟨⟨by omega, by omega⟩, pq⟩
theorem ok_law_near (D : Fd K mg "_law_near" sLawNear ["_law_row", "_law_question"] f fd) (T : Tx mg) (D__law_take : Df P w K mg base "_law_take" 1 ["_law_row", "_law_bound"] spTake) : Df P w K mg base "_law_near" 2 ["_law_row", "_law_question"] spNear := by
  refine D.df (D.F.ok scLawNear (fun vs H Q E ⟨_, _, _, _, _, e, _⟩ => by rw [e]; rfl) fun cdv A outer s H vs Q E hr h => ?_)
  obtain ⟨Hd, l, is, u, q, rfl, s0, hdl, hl, xu, hq, k⟩ := h
  refine ⟨_, (pss_cons (ps_set (i := 1) scLawNear.nd rfl (Or.inl rfl) (pe_callTy (cr_listK (K := K) rfl) (by rfl) T.mlist (by decide +kernel) (pa_cons (pv 1) pa_nil))) (pss_cons (ps_set (i := 2) scLawNear.nd rfl (Or.inl rfl) (pe_df D__law_take (hr.mono (by decide)) (by rfl) (pa_cons (pv 0) (pa_cons (pe_callB (cr_lenK (K := K) rfl) (by rfl) T.mlen PySem.boot_len (pa_cons (pv 1) pa_nil)) pa_nil)))) (pss_cons (ps_asg (pe_ix (ix_listK (K := K) rfl) (pv 1) (pv 2) (fun _ _ => rfl)) (pg_tupK (K := K) (n := 3) rfl rfl (pgs_cons (pg_name (i := 3) scLawNear.nd rfl (Or.inl rfl) (Or.inr rfl)) (pgs_cons (pg_name (i := 4) scLawNear.nd rfl (Or.inl rfl) (Or.inr rfl)) (pgs_cons (pg_name (i := 5) scLawNear.nd rfl (Or.inl rfl) (Or.inr rfl)) pgs_nil))))) (pss_cons (ps_asg (pe_ix (ix_listK (K := K) rfl) (pe_lst (pa_cons (pe_tup (pa_cons (pv 3) (pa_cons (pv 4) (pa_cons (pe_lst pa_nil) pa_nil)))) (pa_cons (pe_tup (pa_cons pe_str (pa_cons (pv 4) (pa_cons (pe_lst pa_nil) pa_nil)))) (pa_cons (pe_tup (pa_cons (pv 3) (pa_cons pe_str (pa_cons (pe_lst pa_nil) pa_nil)))) (pa_cons (pe_tup (pa_cons (pv 3) (pa_cons pe_str (pa_cons (pe_lst pa_nil) pa_nil)))) pa_nil))))) (pe_df D__law_take (hr.mono (by decide)) (by rfl) (pa_cons (pv 0) (pa_cons pe_int pa_nil))) (fun _ _ => rfl)) (pg_sub (pv 1) (pv 2) set_list)) (pss_one (ps_ret (pv 1))))))), ?_⟩
  obtain ⟨au, xs, rfl, hau, hx⟩ := xu.lst_of
  refine ⟨_, rfl, au, xs, rfl, .inl (SqL.of (s0 _ _ hau)), fun l2 hl2 => ?_⟩
  have ne : l2 ≠ l := fun e => by
    subst e
    rw [hl] at hl2
    cases hl2
  have hdl2 : Hd l2 = none := s0.free hl2
  have G1 : Gr Hd H Hd (upd H l2 (.lst xs)) := .newM s0 hl2
  have hrow : upd H l2 (.lst xs) l = some (rowO is) := by rw [upd_ne ne.symm]; exact hl
  have W1 : Gw l Hd H Hd (upd H l2 (.lst xs)) := G1.gw hdl hl
  have hxl : xs.length = q.length := by rw [hx.length, List.length_map]
  have good := hq.1
  refine ⟨_, rfl, _, rfl, l2, xs, rfl, .inl (SqL.of upd_same), l, is, _, rfl, by have := good.1; omega, hrow, fun r is2 h0 h1 => ?_⟩
  obtain ⟨j, rfl⟩ : ∃ j : Nat, r = (j : Int) := ⟨r.toNat, by omega⟩
  have hj : j < q.length := by omega
  have W2 : Gw l Hd H Hd (upd (upd H l2 (.lst xs)) l (rowO is2)) := W1.put
  have hl2' : (upd (upd H l2 (.lst xs)) l (rowO is2)) l2 = some (.lst xs) := by rw [upd_ne ne]; exact upd_same
  have hqj : q[j]? = some q[j] := List.getElem?_eq_getElem hj
  refine q_asg3 (.refl W2.s) (ed_ixM rfl hl2' hx (ed_var rfl (.int _)) (quesD_get hqj)) fun u1 u2 u3 Hd3 H3 G3 g3 z1 z2 z3 => ?_
  have e3 : H3 l = some (rowO is2) := g3.h _ _ upd_same
  have W3 : Gw l Hd H Hd3 H3 := W2.trans (g3.gw hdl upd_same)
  obtain ⟨n1, n2⟩ := g3.out hdl2 hl2'
  have hst : q[j].2 ≠ .lc := hq.2 _ (List.getElem_mem hj)
  have tl : ∀ {σ : L2.St}, Er l (tLst tNil) σ Hd3 fun d => d = .list [] := (er_lst era_nil fun ds h => by subst h; exact Nat.zero_le _).imp fun d ⟨ds, hd, h⟩ => by rw [hd, h]
  have tup : ∀ {σ : L2.St} {ta tb : TE} {b : Bool} {s : Sy}, Er l ta σ Hd3 (· = .str (axS b)) → Er l tb σ Hd3 (· = .str (Sy.s s)) → Er l (tTup (tCons ta (tCons tb (tCons (tLst tNil) tNil)))) σ Hd3 (· = stepD (b, s)) := fun {σ ta tb b s} ha hb => by
    refine (er_tup (era_cons ha (era_cons hb (era_cons tl era_nil))) fun ds h => ?_).imp fun d ⟨ds, hd, h⟩ => ?_
    · obtain ⟨d1, e1, rfl, rfl, d2, e2, rfl, rfl, d3, e3, rfl, rfl, rfl⟩ := h
      show 3 ≤ 1000
      decide
    · obtain ⟨d1, e1, rfl, rfl, d2, e2, rfl, rfl, d3, e3, rfl, rfl, rfl⟩ := h
      exact hd
  refine (er_op (P2 := fun d => ∃ st : Bool × Sy, d = stepD st ∧ st.2 ≠ .lc) (er_lst (era_cons (tup (er_var rfl z1) (er_var rfl z2)) (era_cons (tup (b := true) er_str (er_var rfl z2)) (era_cons (tup (s := .star) (er_var rfl z1) er_str) (era_cons (tup (s := .lb) (er_var rfl z1) er_str) era_nil)))) (fun ds h => ?ga)) (er_takeC rfl (by decide)) fun d e ⟨ds, hd, h⟩ ⟨r, he, h0, h1⟩ => ?gb) Hd3 H3 is2 (Same.refl _) W3.s W3.z e3 _ fun v d Hd4 H4 is4 g4 e4 x4 ⟨st, hd, hs⟩ => ?gc
  case ga =>
    obtain ⟨d1, e1, rfl, rfl, d2, e2, rfl, rfl, d3, e3, rfl, rfl, d4, e4, rfl, rfl, rfl⟩ := h
    show 4 ≤ 1000
    decide
  case gb =>
    obtain ⟨d1, e1, rfl, rfl, d2, e2, rfl, rfl, d3, e3, rfl, rfl, d4, e4, rfl, rfl, rfl⟩ := h
    subst hd
    subst he
    obtain ⟨j, rfl⟩ : ∃ j : Nat, r = (j : Int) := ⟨r.toNat, by omega⟩
    rcases (by omega : j = 0 ∨ j = 1 ∨ j = 2 ∨ j = 3) with e | e | e | e <;> subst e
    · exact ⟨_, rd_ixL rfl, _, rfl, hst⟩
    · exact ⟨_, rd_ixL rfl, _, rfl, hst⟩
    · exact ⟨_, rd_ixL rfl, _, rfl, (by decide : Sy.star ≠ Sy.lc)⟩
    · exact ⟨_, rd_ixL rfl, _, rfl, (by decide : Sy.lb ≠ Sy.lc)⟩
  case gc =>
    subst hd
    obtain ⟨k1, k2⟩ := g4.out ne n1 n2
    have hix : ixN xs.length (j : Int) = some j := by
      unfold ixN
      rw [if_pos (by omega), if_pos (by omega)]
      rfl
    refine ⟨_, rfl, _, rfl, l2, xs, _, j, rfl, rfl, k2, hix, ⟨_, rfl, ?_⟩⟩
    have W5 : Gw l Hd H Hd4 (upd H4 l2 (.lst (xs.set j v))) := (W3.trans g4).mut hl2 k1
    have e5 : upd H4 l2 (.lst (xs.set j v)) l = some (rowO is4) := by rw [upd_ne ne.symm]; exact e4
    have hx5 : DtL Hd4 (xs.set j v) ((q.set j st).map stepD) := by
      rw [List.map_set]
      exact (hx.mono (g3.d.trans g4.d)).set j x4
    refine k _ _ _ is4 (q.set j st) (W5.frz ne hl2 k1 upd_same) e5 (.lst upd_same (hx5.mono (upd_same_new k1))) ⟨⟨by rw [List.length_set]; exact good.1, by rw [List.length_set]; exact good.2⟩, fun s hs2 => ?_⟩
    rcases List.mem_or_eq_of_mem_set hs2 with h | h
    · exact hq.2 s h
    · rw [h]
      exact hs

/-! ### all chains of up to three members -/
def grow (p : List Sy → Sy → Bool) (ms : List Sy) (c : List Sy) : List (List Sy) := (ms.filter (p c)).map fun m => c ++ [m]
def pF (c : List Sy) (m : Sy) : Bool := !decide (c = []) || !decide (m = .hash)
def pL (_ : List Sy) (m : Sy) : Bool := !decide (m = .hash)
def allCh (ms : List Sy) : Nat → List (List Sy) × List (List Sy)
  | 0 => ([[]], [])
  | n + 1 => ((allCh ms n).1.flatMap (grow pL ms), (allCh ms n).2 ++ (allCh ms n).1.flatMap (grow pF ms))
/-- a chain that may be told -/
def AC (ms c : List Sy) : Prop := ∃ y m, c = y ++ [m] ∧ (∀ s ∈ y, s ∈ ms ∧ s ≠ Sy.hash) ∧ m ∈ ms ∧ (y ≠ [] ∨ m ≠ .hash)
theorem mem_grow {p : List Sy → Sy → Bool} {ms c x : List Sy} (h : x ∈ grow p ms c) : ∃ m, x = c ++ [m] ∧ m ∈ ms ∧ p c m = true := by
  obtain ⟨m, hm, rfl⟩ := List.mem_map.mp h
  obtain ⟨h1, h2⟩ := List.mem_filter.mp hm
  exact ⟨m, rfl, h1, h2⟩
theorem allCh_ok (ms : List Sy) : ∀ n, (∀ c ∈ (allCh ms n).1, c.length = n ∧ ∀ s ∈ c, s ∈ ms ∧ s ≠ Sy.hash) ∧ ∀ c ∈ (allCh ms n).2, AC ms c
  | 0 => ⟨fun c hc => by
      have e : c = [] := List.mem_singleton.mp hc
      subst e
      exact ⟨rfl, fun s hs => by cases hs⟩, fun c hc => by cases hc⟩
  | n + 1 => by
    obtain ⟨h1, h2⟩ := allCh_ok ms n
    refine ⟨fun c hc => ?_, fun c hc => ?_⟩
    · obtain ⟨y, hy, hc⟩ := List.mem_flatMap.mp (show c ∈ (allCh ms n).1.flatMap (grow pL ms) from hc)
      obtain ⟨m, rfl, hm, hp⟩ := mem_grow hc
      obtain ⟨a, b⟩ := h1 y hy
      refine ⟨by rw [List.length_append, a]; rfl, fun s hs => ?_⟩
      rcases List.mem_append.mp hs with h | h
      · exact b s h
      · rw [List.mem_singleton.mp h]
        exact ⟨hm, by simpa [pL] using hp⟩
    · rcases List.mem_append.mp (show c ∈ (allCh ms n).2 ++ (allCh ms n).1.flatMap (grow pF ms) from hc) with hc | hc
      · exact h2 c hc
      · obtain ⟨y, hy, hc⟩ := List.mem_flatMap.mp hc
        obtain ⟨m, rfl, hm, hp⟩ := mem_grow hc
        refine ⟨y, m, rfl, (h1 y hy).2, hm, ?_⟩
        unfold pF at hp
        rw [Bool.or_eq_true] at hp
        rcases hp with h | h
        · exact .inl (by simpa using h)
        · exact .inr (by simpa using h)
theorem grow_len (p : List Sy → Sy → Bool) (ms c : List Sy) : (grow p ms c).length ≤ ms.length := by
  unfold grow
  rw [List.length_map]
  exact List.length_filter_le _ _
theorem flat_grow_len (p : List Sy → Sy → Bool) (ms : List Sy) : ∀ cs : List (List Sy), (cs.flatMap (grow p ms)).length ≤ cs.length * ms.length
  | [] => by simp
  | c :: cs => by
    rw [List.flatMap_cons, List.length_append, List.length_cons, Nat.succ_mul]
    have := flat_grow_len p ms cs
    have := grow_len p ms c
    omega
theorem allCh_len {ms : List Sy} (h : ms.length ≤ 4) : ∀ n, n ≤ 3 → (allCh ms n).1.length ≤ 4 ^ n ∧ (allCh ms n).2.length ≤ 400 * n
  | 0, _ => ⟨Nat.le_refl _, Nat.le_refl _⟩
  | n + 1, hn => by
    obtain ⟨h1, h2⟩ := allCh_len h n (by omega)
    have p : 4 ^ n ≤ 16 := by
      rcases (by omega : n = 0 ∨ n = 1 ∨ n = 2) with e | e | e <;> subst e <;> decide
    have a := flat_grow_len pL ms (allCh ms n).1
    have b := flat_grow_len pF ms (allCh ms n).1
    have c : (allCh ms n).1.length * ms.length ≤ 4 ^ n * 4 := Nat.mul_le_mul h1 h
    refine ⟨?_, ?_⟩
    · show ((allCh ms n).1.flatMap (grow pL ms)).length ≤ 4 ^ (n + 1)
      rw [Nat.pow_succ]
      exact Nat.le_trans a c
    · show ((allCh ms n).2 ++ (allCh ms n).1.flatMap (grow pF ms)).length ≤ 400 * (n + 1)
      rw [List.length_append]
      omega
/-- one member more: what has been told so far of chain c -/
def growTo (p : List Sy → Sy → Bool) (ms c : List Sy) (j : Nat) : List (List Sy) := grow p (ms.take j) c
theorem growTo_succ {p : List Sy → Sy → Bool} {ms c : List Sy} {j : Nat} {m : Sy} (h : ms[j]? = some m) : growTo p ms c (j + 1) = if p c m = true then growTo p ms c j ++ [c ++ [m]] else growTo p ms c j := by
  unfold growTo grow
  rw [take_succ_get h, List.filter_append, List.map_append]
  cases hp : p c m with
  | true => rw [if_pos rfl]; simp [hp]
  | false => rw [if_neg Bool.false_ne_true]; simp [hp]
def spAll : Sp := spD fun ds r => ∃ ms : List Sy, ds = [chainD ms] ∧ ms.length ≤ 4 ∧ r = chainsD (allCh ms 3).2
theorem snoc_chain (c : List Sy) (m : Sy) : PyData.list ((c.map Sy.s).map PyData.str ++ [.str m.s]) = chainD (c ++ [m]) := by
  unfold chainD
  rw [List.map_append, List.map_append]
  rfl
theorem s_ifApp2 {σ : L2.St} {Hd H Hd0 H0 : Hp} {D : Ends} {i : Nat} {te : TE} {tt : TT} {b : Bool} {d : PyData} {l : Addr} {xs : List V} (G : Gr Hd0 H0 Hd H) (l0 : H0 l = none) (hd : Hd l = none) (hl : H l = some (.lst xs)) (hv : σ[i]? = some (some (.ref l))) (h : Et tt σ H Hd b) (he : b = true → Ed te σ H Hd d) (hz : xs.length < 1000000)
    (k : ∀ xs' Hd' H', Gr Hd0 H0 Hd' H' → Same Hd Hd' → Hd' l = none → H' l = some (.lst xs') → (∀ m o, m ≠ l → Hd m = none → H m = some o → Hd' m = none ∧ H' m = some o) → ((b = true ∧ ∃ v, xs' = xs ++ [v] ∧ Dt Hd' v d) ∨ (b = false ∧ xs' = xs)) → D.nx σ H') :
    tIfS tt (tDrop (tBM K "list" rAppend (tVar i) (tCons te tNil))) tNext D σ H :=
  s_when G h (fun hb H1 G1 g1 => s_app G1 l0 hd (g1.h _ _ hl) hv ((he hb).mono (Same.refl _) g1.h) hz fun v Hd' H' G2 g2 n2 x => k _ Hd' _ G2 g2.d n2 upd_same (fun m o ne hm ho => by
      obtain ⟨a, b⟩ := g2.out hm (g1.h _ _ ho)
      exact ⟨a, by rw [upd_ne ne]; exact b⟩) (.inl ⟨hb, v, rfl, x⟩))
    fun hb H1 G1 g1 => k xs Hd H1 G1 (Same.refl _) hd (g1.h _ _ hl) (fun m o _ hm ho => ⟨hm, g1.h _ _ ho⟩) (.inr ⟨hb, rfl⟩)
theorem q_ifApp2 {σ : L2.St} {Hd H Hd0 H0 : Hp} {D : Ends} {tz : TS} {i : Nat} {te : TE} {tt : TT} {b : Bool} {d : PyData} {l : Addr} {xs : List V} (G : Gr Hd0 H0 Hd H) (l0 : H0 l = none) (hd : Hd l = none) (hl : H l = some (.lst xs)) (hv : σ[i]? = some (some (.ref l))) (h : Et tt σ H Hd b) (he : b = true → Ed te σ H Hd d) (hz : xs.length < 1000000)
    (k : ∀ xs' Hd' H', Gr Hd0 H0 Hd' H' → Same Hd Hd' → Hd' l = none → H' l = some (.lst xs') → (∀ m o, m ≠ l → Hd m = none → H m = some o → Hd' m = none ∧ H' m = some o) → ((b = true ∧ ∃ v, xs' = xs ++ [v] ∧ Dt Hd' v d) ∨ (b = false ∧ xs' = xs)) → tz D σ H') :
    tSeq (tIfS tt (tDrop (tBM K "list" rAppend (tVar i) (tCons te tNil))) tNext) tz D σ H := s_ifApp2 (D := { D with nx := tz D }) G l0 hd hl hv h he hz k
theorem pF_is (c : List Sy) (m : Sy) : (!PyData.eqv (chainD c) (.list []) || !decide (m.s = ("#" : Str))) = pF c m := by
  rw [sx_ne]
  have e : PyData.eqv (chainD c) (.list []) = decide (c = []) := eqv_chain c []
  rw [e]
  rfl
theorem grown {Hd Hd' : Hp} {xs xs' : List V} {cs : List (List Sy)} {p : List Sy → Sy → Bool} {ms c : List Sy} {n : Nat} {m : Sy} {b : Bool} (hm : ms[n]? = some m) (hx : DtL Hd xs ((cs ++ growTo p ms c n).map chainD)) (s : Same Hd Hd') (hb : b = p c m) (h : (b = true ∧ ∃ v, xs' = xs ++ [v] ∧ Dt Hd' v (chainD (c ++ [m]))) ∨ (b = false ∧ xs' = xs)) : DtL Hd' xs' ((cs ++ growTo p ms c (n + 1)).map chainD) := by
  rw [growTo_succ hm]
  rcases h with ⟨h1, v, rfl, hv⟩ | ⟨h1, rfl⟩
  · rw [if_pos (hb ▸ h1), ← List.append_assoc, List.map_append]
    exact (hx.mono s).append (.one hv)
  · rw [if_neg (by rw [← hb, h1]; exact Bool.false_ne_true)]
    exact hx.mono s
theorem ok_law_all (D : Fd K mg "_law_all_chains" sLawAllChains ["_law_known"] f fd) (T : Tx mg) : Df P w K mg base "_law_all_chains" 1 ["_law_known"] spAll := by
  refine D.df (D.F.ok scLawAllChains (spD_len fun ds r ⟨_, e, _⟩ => by rw [e]; rfl) fun cdv A outer s H vs Q E hr h => ?_)
  obtain ⟨Hd, ds, r, s0, hv, ⟨ms, rfl, hm4, rfl⟩, k⟩ := h
  obtain ⟨v0, _, rfl, x0, hv⟩ := hv.cons_of
  rw [hv.nil_of]
  have hu64 : (A.deeper (envOfC "_law_all_chains" (defScope sLawAllChains) s.heap.objs.size f cdv)).units + 64 < cLine := by have := hr.un; omega
  refine ⟨_, (pss_cons (ps_set (i := 1) scLawAllChains.nd rfl (Or.inl rfl) (pe_lst (pa_cons (pe_lst pa_nil) pa_nil))) (pss_cons (ps_set (i := 2) scLawAllChains.nd rfl (Or.inl rfl) (pe_lst pa_nil)) (pss_cons (ps_for PassesOwn.never rfl (pi_range1 rfl T.mrange (pa_cons pe_int pa_nil)) (pg_name (i := 3) scLawAllChains.nd rfl (Or.inl rfl) (Or.inr rfl)) (pss_cons (ps_set (i := 4) scLawAllChains.nd rfl (Or.inl rfl) (pe_lst pa_nil)) (pss_cons (ps_for PassesOwn.never rfl (pi_list (pe_callTy (cr_listK (K := K) rfl) (by rfl) T.mlist (by decide +kernel) (pa_cons (pv 1) pa_nil))) (pg_name (i := 5) scLawAllChains.nd rfl (Or.inl rfl) (Or.inr rfl)) (pss_one (ps_for PassesOwn.never rfl (pi_list (pv 0)) (pg_name (i := 6) scLawAllChains.nd rfl (Or.inl rfl) (Or.inr rfl)) (pss_cons (ps_if (PW.pt (pw_or (pt_cmpR (op_neDK (K := K) rfl hu64) (pv 5) (pe_lst pa_nil) (nomark _)) (pw_or1 (pt_cmpR op_ne (pv 6) pe_str (nomark _))))) (pss_one (ps_expr (pe_bm PySem.F.plainAttrs_list PySem.F.slot_list_append PySem.F.type_list_append mt_append (pv 2) (pa_cons (pe_op op_cat (pv 5) (pe_lst (pa_cons (pv 6) pa_nil))) pa_nil)))) pss_nil) (pss_one (ps_if (pt_cmpR op_ne (pv 6) pe_str (nomark _)) (pss_one (ps_expr (pe_bm PySem.F.plainAttrs_list PySem.F.slot_list_append PySem.F.type_list_append mt_append (pv 4) (pa_cons (pe_op op_cat (pv 5) (pe_lst (pa_cons (pv 6) pa_nil))) pa_nil)))) pss_nil)))))) (pss_one (ps_set (i := 1) scLawAllChains.nd rfl (Or.inl rfl) (pv 4)))))) (pss_one (ps_ret (pv 2)))))), ?_⟩
  refine q_asg (d := chainsD [[]]) (.refl s0) (ed_lst (ea_cons (ed_lst ea_nil) ea_nil)) fun v1 Hd1 H1 G1 g1 x1 => ?_
  refine q_newL G1 fun l hl1 hdl1 G2 => ?_
  have hl : H l = none := by
    cases q : H l with
    | none => rfl
    | some o =>
      rw [g1.h _ _ q] at hl1
      cases hl1
  refine q_forR (n := 3) G2 (ea_cons ed_int ea_nil) (by decide) (fun i σ Hd' H' => ∃ u a3 a4 a5 a6 xs, σ = [some v0, some u, some (.ref l), a3, a4, a5, a6] ∧ Gr Hd H Hd' H' ∧ Hd' l = none ∧ H' l = some (.lst xs) ∧ DtL Hd' xs ((allCh ms i).2.map chainD) ∧ Dt Hd' u (chainsD (allCh ms i).1))
    (fun H3 G3 g3 => ⟨v1, none, none, none, none, [], rfl, G3, hdl1, g3.h _ _ upd_same, .nil, x1⟩) (fun i σ Hd' H' hi sd sh ⟨u, a3, a4, a5, a6, xs, hσ, G3, n1, n2, hx, xu⟩ => ?_) fun σ Hd' H' sd sh ⟨u, a3, a4, a5, a6, xs, hσ, G3, n1, n2, hx, xu⟩ => ?_
  · subst hσ
    obtain ⟨len1, len2⟩ := allCh_len hm4 i (by omega)
    have len3 : 4 ^ i ≤ 16 := by
      rcases (by omega : i = 0 ∨ i = 1 ∨ i = 2) with e | e | e <;> subst e <;> decide
    obtain ⟨ok1, _⟩ := allCh_ok ms i
    refine q_newL G3 fun l4 hl4' hdl4 G4 => ?_
    have ne : l4 ≠ l := fun e => by
      subst e
      rw [n2] at hl4'
      cases hl4'
    have hl4 : H l4 = none := by
      cases q : H l4 with
      | none => rfl
      | some o =>
        rw [G3.h _ _ q] at hl4'
        cases hl4'
    have n2' : upd H' l4 (.lst []) l = some (.lst xs) := by rw [upd_ne ne.symm]; exact n2
    refine q_for G4 (ed_cb (ea_cons (ed_var rfl xu) ea_nil) rc_list) (fun j σ Hd5 H5 => ∃ a5 a6 xs ys, σ = [some v0, some u, some (.ref l), some (.int (i : Int)), some (.ref l4), a5, a6] ∧ Gr Hd H Hd5 H5 ∧ Hd5 l = none ∧ Hd5 l4 = none ∧ H5 l = some (.lst xs) ∧ H5 l4 = some (.lst ys) ∧
        DtL Hd5 xs (((allCh ms i).2 ++ ((allCh ms i).1.take j).flatMap (grow pF ms)).map chainD) ∧ DtL Hd5 ys ((((allCh ms i).1.take j).flatMap (grow pL ms)).map chainD))
      (fun Hd5 H5 G5 g5 => ?_) (fun Hd5 sd5 j d x σ Hd6 H6 hj sd6 sh6 xd ⟨a5, a6, xs, ys, hσ, G6, m1, m2, m3, m4, hx, hy⟩ => ?_) fun σ Hd6 H6 sd6 sh6 ⟨a5, a6, xs, ys, hσ, G6, m1, m2, m3, m4, hx, hy⟩ => ?_
    · obtain ⟨b1, b2⟩ := g5.out n1 n2'
      obtain ⟨b3, b4⟩ := g5.out hdl4 upd_same
      exact ⟨_, _, xs, [], rfl, G5, b1, b3, b2, b4, by rw [List.take_zero, List.flatMap_nil, List.append_nil]; exact hx.mono g5.d, by rw [List.take_zero]; exact .nil⟩
    · obtain ⟨c, hc, rfl⟩ := map_inj_list hj
      have clen : c.length ≤ 3 := by
        have := (ok1 c (List.mem_of_getElem? hc)).1
        omega
      have jl : j < (allCh ms i).1.length := (List.getElem?_eq_some_iff.mp hc).1
      have tl1 := flat_grow_len pF ms ((allCh ms i).1.take j)
      have tl2 := flat_grow_len pL ms ((allCh ms i).1.take j)
      have tl3 : ((allCh ms i).1.take j).length * ms.length ≤ 16 * 4 := Nat.mul_le_mul (by rw [List.length_take]; omega) hm4
      subst hσ
      have y0 : Dt Hd6 v0 (.list (ms.map fun m => .str (Sy.s m))) := by
        have := x0.mono G6.d
        unfold chainD at this
        rw [List.map_map] at this
        exact this
      refine s_for G6 (ed_var rfl y0) (fun n σ Hd7 H7 => ∃ a6 xs ys, σ = [some v0, some u, some (.ref l), some (.int (i : Int)), some (.ref l4), some x, a6] ∧ Gr Hd H Hd7 H7 ∧ Hd7 l = none ∧ Hd7 l4 = none ∧ H7 l = some (.lst xs) ∧ H7 l4 = some (.lst ys) ∧
          DtL Hd7 xs (((allCh ms i).2 ++ ((allCh ms i).1.take j).flatMap (grow pF ms) ++ growTo pF ms c n).map chainD) ∧ DtL Hd7 ys ((((allCh ms i).1.take j).flatMap (grow pL ms) ++ growTo pL ms c n).map chainD))
        (fun Hd7 H7 G7 g7 => ?_) (fun Hd7 sd7 n d x2 σ Hd8 H8 hn sd8 sh8 xd2 ⟨a6, xs, ys, hσ, G8, m1, m2, m3, m4, hx, hy⟩ => ?_) fun σ Hd8 H8 sd8 sh8 ⟨a6, xs, ys, hσ, G8, m1, m2, m3, m4, hx, hy⟩ => ?_
      · obtain ⟨b1, b2⟩ := g7.out m1 m3
        obtain ⟨b3, b4⟩ := g7.out m2 m4
        refine ⟨_, xs, ys, rfl, G7, b1, b3, b2, b4, ?_, ?_⟩
        · show DtL Hd7 xs (((allCh ms i).2 ++ ((allCh ms i).1.take j).flatMap (grow pF ms) ++ grow pF (ms.take 0) c).map chainD)
          rw [List.take_zero]
          show DtL Hd7 xs (((allCh ms i).2 ++ ((allCh ms i).1.take j).flatMap (grow pF ms) ++ []).map chainD)
          rw [List.append_nil]
          exact hx.mono g7.d
        · show DtL Hd7 ys ((((allCh ms i).1.take j).flatMap (grow pL ms) ++ grow pL (ms.take 0) c).map chainD)
          rw [List.take_zero]
          show DtL Hd7 ys ((((allCh ms i).1.take j).flatMap (grow pL ms) ++ []).map chainD)
          rw [List.append_nil]
          exact hy.mono g7.d
      · obtain ⟨m, hm, rfl⟩ := map_inj_list hn
        subst hσ
        have xc : Dt Hd8 x (chainD c) := (xd.mono sd7).mono sd8
        have g1l := grow_len pF (ms.take n) c
        have g2l := grow_len pL (ms.take n) c
        have tkn : (ms.take n).length ≤ 4 := by rw [List.length_take]; omega
        have xl : xs.length ≤ 10000 := by
          rw [hx.length, List.length_map, List.length_append, List.length_append]
          unfold growTo
          omega
        have yl : ys.length ≤ 10000 := by
          rw [hy.length, List.length_map, List.length_append]
          unfold growTo
          omega
        have catL : ((c.map Sy.s).map PyData.str).length + [PyData.str m.s].length ≤ sizeLine := by
          rw [List.length_map, List.length_map]
          exact Nat.le_trans (by show _ + 1 ≤ 2000; omega) (Nat.le_trans (by decide) big)
        refine q_ifApp2 G8 hl m1 m3 rfl (et_or (et_test (ed_op (ed_var rfl xc) (ed_lst ea_nil) (rd_neD ((fit_chain c).shaped (by decide)) (by decide)))) fun _ => et_test (ed_op (ed_var rfl xd2) ed_str rd_neS)) (fun _ => (ed_op (ed_var rfl xc) (ed_lst (ea_cons (ed_var rfl xd2) ea_nil)) (rd_cat catL)).is (snoc_chain c m)) (by omega) fun xs' Hd9 H9 G9 d9 k1 k2 o9 h9 => ?_
        obtain ⟨k3, k4⟩ := o9 l4 _ ne m2 m4
        refine s_ifApp2 G9 hl4 k3 k4 rfl (et_test (ed_op (ed_var rfl (xd2.mono d9)) ed_str rd_neS)) (fun _ => (ed_op (ed_var rfl (xc.mono d9)) (ed_lst (ea_cons (ed_var rfl (xd2.mono d9)) ea_nil)) (rd_cat catL)).is (snoc_chain c m)) (by omega) fun ys' HdA HA GA dA j1 j2 oA hA => ?_
        obtain ⟨j3, j4⟩ := oA l _ ne.symm k1 k2
        exact ⟨HdA, sd8.trans (d9.trans dA), GA.s, _, xs', ys', rfl, GA, j3, j1, j4, j2, (grown hm hx d9 (pF_is c m) h9).mono dA, grown (p := pL) hm hy (d9.trans dA) sx_ne hA⟩
      · subst hσ
        have e : (ms.map fun m => PyData.str (Sy.s m)).length = ms.length := List.length_map ..
        rw [e] at hx hy
        unfold growTo at hx hy
        rw [List.take_length] at hx hy
        refine ⟨Hd8, sd6.trans sd8, sh8, _, _, xs, ys, rfl, G8, m1, m2, m3, m4, ?_, ?_⟩
        · rw [take_succ_get hc, List.flatMap_append, List.flatMap_singleton, ← List.append_assoc]
          exact hx
        · rw [take_succ_get hc, List.flatMap_append, List.flatMap_singleton]
          exact hy
    · subst hσ
      have e : ((allCh ms i).1.map chainD).length = (allCh ms i).1.length := List.length_map ..
      rw [e, List.take_length] at hx hy
      have G7 := G6.frz hl4 m2 m4
      have sm := upd_same_new (o := HO.lst ys) m2
      refine s_asg G7 (ed_var rfl (Dt.lst upd_same (hy.mono sm))) fun u' Hd7 H7 G8 g8 xu' => ?_
      obtain ⟨b1, b2⟩ := g8.out (show upd Hd6 l4 (.lst ys) l = none by rw [upd_ne ne.symm]; exact m1) m3
      exact ⟨Hd7, sd.trans (sd6.trans (sm.trans g8.d)), G8.s, u', _, _, _, _, xs, rfl, G8, b1, b2, (hx.mono sm).mono g8.d, xu'⟩
  · subst hσ
    have G4 := G3.frz hl n1 n2
    exact s_ret G4 (ed_var rfl (Dt.lst upd_same (hx.mono (upd_same_new n1)))) k
end
end T45

/-! The law. -/
namespace T45
open PySem PySem.Spec PyProof.Rows L2
abbrev sLaw : Stmt := top 45
theorem scLaw : FnScope ["_law_script", "_law_row", "_law_first", "_law_second", "_law_within", "_law_told", "_law_words", "_law_due_here", "_law_chain", "_law_wide", "_law_step"] ["_law_script"] (defScope sLaw) := ⟨rfl, rfl, rfl, by decide +kernel, rfl, by decide +kernel, by decide +kernel⟩
/-! ### a > b of alike data -/
def rGtD (K : PySem.W.Frag) : R2 := fun x y H Q => ∃ d e, Dp K H x d ∧ Dp K H y e ∧ PySem.W.alike d e = true ∧ d ≠ .none ∧ d.depth ≤ 64 ∧ Q (.bl (PySem.W.dataLt e d)) H
section
variable {X : Cx} {K : PySem.W.Frag}
theorem op_gtDK (h : X.K = K) (hu : X.A.units + 64 < cLine) : OpR X (compareOp .Gt) (rGtD K) := by
  subst h
  intro pins s σ H x y v u Q I rx ry h
  obtain ⟨d, e, hd, he, al, nn, dp, q⟩ := h
  obtain ⟨as, r1⟩ := Dp.reads I d x v hd rx
  obtain ⟨bs, r2⟩ := Dp.reads I e y u he ry
  refine PySem.W.gt_data r1 r2 al nn ?_ ⟨.bl _, H, I, rfl, q⟩
  have : min d.depth e.depth ≤ d.depth := Nat.min_le_left _ _
  omega
end
section
variable {K : PySem.W.Frag} {d e : PyData}
theorem rd_gtD (al : PySem.W.alike d e = true) (nn : d ≠ .none) (dp : d.depth ≤ 64) : Rd2 (rGtD K) d e (.bool (PySem.W.dataLt e d)) := fun Hd1 H1 b x y hx hy Q q =>
  ⟨d, e, (hx.mono b).dp, (hy.mono b).dp, al, nn, dp, q _ Hd1 H1 (.refl b) (.bl _)⟩
end
/-- the length and the chain -/
def lenD (c : List Sy) : PyData := .tuple [.int (c.length : Int), chainD c]
theorem alike_strs : ∀ c x : List Sy, PySem.W.alikeAll ((c.map Sy.s).map PyData.str) ((x.map Sy.s).map PyData.str) = true
  | [], _ => by simp [PySem.W.alikeAll]
  | _ :: _, [] => by simp [PySem.W.alikeAll]
  | a :: c, b :: x => by
    have ih := alike_strs c x
    simp only [List.map_cons, PySem.W.alikeAll, PySem.W.alike, Bool.true_and]
    exact ih
theorem alike_len (c x : List Sy) : PySem.W.alike (lenD c) (lenD x) = true := by
  have h := alike_strs c x
  unfold lenD chainD
  simp only [PySem.W.alike, PySem.W.alikeAll, h, Bool.and_self]
theorem toks_gt : ∀ (c x : List Sy), c.length = x.length → ∀ t : List (Int ⊕ List Nat), PyProof.Rows.lexLt itemOrd (PySem.W.keyToksAll ((x.map Sy.s).map PyData.str) ++ t) (PySem.W.keyToksAll ((c.map Sy.s).map PyData.str) ++ t) = lexGt c x
  | [], [], _, t => by
    show PyProof.Rows.lexLt itemOrd (.inl 0 :: t) (.inl 0 :: t) = false
    exact PyProof.Rows.lex_irrefl _
  | [], _ :: _, h, _ => by cases h
  | _ :: _, [], h, _ => by cases h
  | a :: c, b :: x, h, t => by
    have ih := toks_gt c x (by simpa using h) t
    simp only [List.map_cons, PySem.W.keyToksAll, PySem.W.keyToks, List.cons_append, List.nil_append]
    rw [lex_self (O := itemOrd)]
    unfold lexGt
    by_cases e : a = b
    · subst e
      rw [lex_self (O := itemOrd), if_pos rfl]
      exact ih
    · have ne : (Sum.inr b.s.cps.toList : Int ⊕ List Nat) ≠ .inr a.s.cps.toList := fun z => by
        injection z with z
        rw [Sy.cps, Sy.cps] at z
        injection z with z
        have : b = a := by
          revert z
          cases a <;> cases b <;> decide
        exact e this.symm
      rw [PySem.W.lex_atom ne, PySem.W.lex_one, if_neg e]
      show strKind.blt b.s.cps.toList a.s.cps.toList = decide (b.ix < a.ix)
      cases a <;> cases b <;> decide +kernel
theorem gt_len (c x : List Sy) : PySem.W.dataLt (lenD x) (lenD c) = pyGt c x := by
  have e : ∀ c : List Sy, PySem.W.keyToks (lenD c) = .inl 1 :: .inl (c.length : Int) :: .inl 1 :: (PySem.W.keyToksAll ((c.map Sy.s).map PyData.str) ++ [.inl 0]) := fun c => by
    unfold lenD chainD
    simp only [PySem.W.keyToks, PySem.W.keyToksAll, List.cons_append, List.nil_append]
  unfold PySem.W.dataLt
  rw [e, e, lex_self (O := itemOrd)]
  unfold pyGt
  by_cases h : c.length = x.length
  · rw [if_pos h, h, lex_self (O := itemOrd), lex_self (O := itemOrd)]
    exact toks_gt c x h _
  · rw [if_neg h]
    have ne : (Sum.inl (x.length : Int) : Int ⊕ List Nat) ≠ .inl (c.length : Int) := fun z => h (by injection z with z; omega)
    rw [PySem.W.lex_atom ne, PySem.W.lex_one]
    show decide ((x.length : Int) < (c.length : Int)) = decide (x.length < c.length)
    exact decide_eq_decide.mpr Int.ofNat_lt
theorem go_few {w : Bool} {q1 q2 : Qn} : ∀ {n i : Nat} {acc acc' : List En}, Few q1 q2 acc → go w q1 q2 n i acc = some (.ok acc') → Few q1 q2 acc'
  | 0, _, _, _, _, h => by cases h
  | n + 1, i, acc, acc', f, h => by
    unfold go at h
    cases hp : proc w q1 q2 (chAt acc i) (dueAt q1 q2 acc i) acc with
    | error c =>
      rw [hp] at h
      cases h
    | ok a =>
      rw [hp] at h
      have fa := proc_few (dueAt_all q1 q2 acc i) f hp
      dsimp only at h
      by_cases hc : a.length ≤ i
      · rw [if_pos hc] at h
        cases h
        exact fa
      · rw [if_neg hc] at h
        exact go_few fa h
section
variable {X : Cx} {x : Str} {pos p : Pos} {e : Expr} {es : List Expr} {kws : List Keyword} {t tk : TA} {k n : Nat} {ps ks : List Str} {sp : Sp}
theorem pe_kw (D : DfN X.prog X.w X.K X.mg X.base x k ps n ks sp) (hr : Room k X.A) (hg : Gl X x) (ha : PA X (e :: es) t) (hkw : PK X kws tk) (hall : (backToKw pos (keywordEach kws X.env)).all (·.1.isSome) = true := by rfl) (hks : (backToKw pos (keywordEach kws X.env)).filterMap (·.1) = ks := by rfl)
    (hdb : (x == ("__debug__" : Str)) = false := by decide) (he : starEach (e :: es) X.env = (false, eval e X.env) :: starEach es X.env := by rfl)
    (hpl : ((backTo pos (starEach (e :: es) X.env)).any (·.1) || (backToKw pos (keywordEach kws X.env)).any (·.1.isNone)) = false := by rfl) :
    PE X (.Call (.Name x p) (e :: es) kws pos) (tCallN n ks.length sp (fun vs zs => vs ++ zs) E0 t tk) := by
  obtain ⟨f, fd, g, G, m, kp, b⟩ := D
  exact pe_callN G hr hg m kp b pass0 ha hkw hall hks hdb he hpl
end
section
variable {K : PySem.W.Frag} {σ : L2.St} {Hd H : Hp} {ts tk : TA} {d : PyData} {ds es : List PyData} {f : List PyData → PyData → Prop} {E : XK} {n m : Nat}
theorem ed_callN (h : Ea ts σ H Hd ds) (h2 : Ea tk σ H Hd es) (hn : ds.length = n) (hm : es.length = m) (hf : f (ds ++ es) d) : Ed (tCallN n m (spD f) (fun vs zs => vs ++ zs) E ts tk) σ H Hd d := fun Hd1 H1 a Q q => h Hd1 H1 a _ fun xs Hd2 H2 g x =>
  h2 Hd2 H2 (a.gr g) _ fun ys Hd3 H3 g3 y => ⟨by rw [x.length, hn], by rw [y.length, hm], Hd3, ds ++ es, d, g3.s, (x.mono g3.d).append y, hf, fun v Hd4 H4 g4 v4 => q v Hd4 H4 ((g.trans g3).trans g4) v4⟩
theorem rd_notB {i j : Bool} : Rd2 rNotB (.bool i) (.bool j) (.bool (!decide (i = j))) := fun Hd1 H1 b x y hx hy Q q => ⟨i, j, hx.bl_of, hy.bl_of, q _ Hd1 H1 (.refl b) (.bl _)⟩
theorem ed_m1 : Ed (tUn (rU fun i => .int (-i)) (tC (.int 1))) σ H Hd (.int (-1)) := fun Hd1 H1 a Q q => ⟨1, rfl, q _ Hd1 H1 a.gr0 (.int _)⟩
theorem rd_ixLast {ds : List PyData} {d : PyData} : Rd2 (rIxL K) (.list (ds ++ [d])) (.int (-1)) d := fun Hd1 H1 b _ _ hx hy Q q => by
  obtain ⟨p, xs, rfl, h1, h2⟩ := hx.lst_of
  have hl : xs.length = ds.length + 1 := by rw [h2.length, List.length_append]; rfl
  obtain ⟨v, hv, hd⟩ := h2.get (i := ds.length) (d := d) (by simp)
  have e : atI xs (-1) = some v := by
    unfold atI
    have e2 : ixN xs.length (-1) = some ds.length := by
      unfold ixN
      rw [hl, if_neg (by decide), if_pos (by omega)]
      congr 1
      omega
    rw [e2]
    exact hv
  rw [hy.int_of]
  exact ⟨p, xs, _, v, rfl, rfl, SqL.of (b _ _ h1), e, q v Hd1 H1 (.refl b) hd⟩
end
def spLaw (K : PySem.W.Frag) : Sp := fun vs H Q _ => ∃ (a : Addr) (ns : List Int), vs = [.ref a] ∧ ns.length ≤ 63 ∧ SqL K H a (ns.map V.int) ∧ ∀ H', Q (.bl true) H'
def yesW (w : Bool) : Str := if w = true then "within" else "alike"
def noW (w : Bool) : Str := if w = true then "outside" else "apart"
theorem fit_sq {a b : PyData} {n : Nat} (ha : Fit n a) (hb : Fit n b) : Fit (n + 1) (.tuple [a, b]) := fit_tup fun d hd => by
  rcases List.mem_cons.mp hd with e | hd
  · subst e; exact ha
  · rcases List.mem_cons.mp hd with e | hd
    · subst e; exact hb
    · cases hd
theorem yes_ok (w : Bool) : PyData.strOk (yesW w) = true ∧ PyData.strOk (noW w) = true := by cases w <;> decide +kernel
theorem fit_said (w : Bool) (r : Except (List Sy) (List En)) : Fit 4 (saidD (yesW w) (noW w) r) := by
  cases r with
  | error c => exact (fit_sq ((fit_str (yes_ok w).2).mono (Nat.zero_le 1)) (fit_chain c)).mono (by decide)
  | ok acc =>
    have h : Fit 3 (pairsD (acc.map (·.1))) := fit_pairs _
    exact fit_sq ((fit_str (yes_ok w).1).mono (Nat.zero_le 3)) h
theorem said_refl (w : Bool) (r : Except (List Sy) (List En)) : PyData.eqv (saidD (yesW w) (noW w) r) (saidD (yesW w) (noW w) r) = true := by
  cases r with
  | error c =>
    show PyData.eqv (.tuple [.str (noW w), chainD c]) (.tuple [.str (noW w), chainD c]) = true
    rw [eqv_tup2, eqv_str, eqv_chain]
    simp
  | ok acc =>
    show PyData.eqv (.tuple [.str (yesW w), pairsD (acc.map (·.1))]) (.tuple [.str (yesW w), pairsD (acc.map (·.1))]) = true
    rw [eqv_tup2, eqv_str, eqv_pairs]
    simp
/-- what every search comes to -/
theorem go_res (w : Bool) {q1 q2 : Qn} (h1 : q1.length ≤ 4) (h2 : q2.length ≤ 4) : ∃ r, go w q1 q2 1026 0 [] = some r := go_ends h1 h2 1026 0 [] (by decide) (by decide) (few_nil q1 q2)
theorem chains_get {cs : List (List Sy)} {i : Nat} {d : PyData} (h : (cs.map chainD)[i]? = some d) : ∃ c, cs[i]? = some c ∧ d = chainD c := map_inj_list h
section
variable {P : Program} {w : World} {K : PySem.W.Frag} {mg : Str → Option Value} {base : Heap} {f : Addr} {fd : FuncData}
theorem ok_law (D : Fd K mg "law" sLaw ["_law_script"] f fd) (T : Tx mg)
    (D__law_numbers : Df P w K mg base "_law_numbers" 2 ["_law_script", "_law_count"] (spNumbers K)) (D__law_steps : Df P w K mg base "_law_steps" 2 ["_law_row"] spSteps) (D__law_near : Df P w K mg base "_law_near" 2 ["_law_row", "_law_question"] spNear) (D__law_take : Df P w K mg base "_law_take" 1 ["_law_row", "_law_bound"] spTake)
    (D_compare : Df P w K mg base "compare" 8 ["first", "second"] (spCompare false "alike" "apart")) (D_compare_within : Df P w K mg base "compare_within" 8 ["first", "second"] (spCompare true "within" "outside")) (D__law_search : Df P w K mg base "_law_search" 4 ["_law_first", "_law_second", "_law_within"] spSearchLaw)
    (D_accepts_paper : DfN P w K mg base "accepts_paper" 8 ["first", "second", "paper", "within"] 3 ["within"] spAcceptsPaper) (D__law_parts : Df P w K mg base "_law_parts" 3 ["_law_first", "_law_second", "_law_within", "_law_chain"] spParts) (D__law_all_chains : Df P w K mg base "_law_all_chains" 1 ["_law_known"] spAll)
    (D__law_members : Df P w K mg base "_law_members" 1 ["_law_first", "_law_second"] spMembers) (D_takes : Df P w K mg base "takes" 5 ["question", "chain"] spTakes) (D__law_takes : Df P w K mg base "_law_takes" 2 ["_law_question", "_law_chain"] spTakes) : FnOk P w K mg base CX0 9 f fd ["_law_script"] (spLaw K) := by
  refine D.F.ok scLaw (fun vs H Q E ⟨_, _, e, _⟩ => by rw [e]; rfl) fun cdv A outer s H vs Q E hr h => ?_
  obtain ⟨a, ns, rfl, hns, sq, k⟩ := h
  have hu64 : (A.deeper (envOfC "law" (defScope sLaw) s.heap.objs.size f cdv)).units + 64 < cLine := by have := hr.un; omega
  refine ⟨_, (pss_cons (ps_set (i := 1) scLaw.nd rfl (Or.inl rfl) (pe_df D__law_numbers (hr.mono (by decide)) (by rfl) (pa_cons (pv 0) (pa_cons pe_int pa_nil)))) (pss_cons (ps_set (i := 2) scLaw.nd rfl (Or.inl rfl) (pe_df D__law_steps (hr.mono (by decide)) (by rfl) (pa_cons (pv 1) pa_nil))) (pss_cons (ps_set (i := 3) scLaw.nd rfl (Or.inl rfl) (pe_ix (ix_listK (K := K) rfl) (pe_lst (pa_cons (pe_df D__law_steps (hr.mono (by decide)) (by rfl) (pa_cons (pv 1) pa_nil)) (pa_cons (pe_df D__law_near (hr.mono (by decide)) (by rfl) (pa_cons (pv 1) (pa_cons (pv 2) pa_nil))) (pa_cons (pe_callTy (cr_listK (K := K) rfl) (by rfl) T.mlist (by decide +kernel) (pa_cons (pv 2) pa_nil)) pa_nil)))) (pe_df D__law_take (hr.mono (by decide)) (by rfl) (pa_cons (pv 1) (pa_cons pe_int pa_nil))) (fun _ _ => rfl))) (pss_cons (ps_for PassesOwn.never rfl (pi_list (pe_lst (pa_cons pe_bl (pa_cons pe_bl pa_nil)))) (pg_name (i := 4) scLaw.nd rfl (Or.inl rfl) (Or.inr rfl)) (pss_cons (ps_set (i := 5) scLaw.nd rfl (Or.inl rfl) (pe_df D_compare (hr.mono (by decide)) (by rfl) (pa_cons (pv 2) (pa_cons (pv 3) pa_nil)))) (pss_cons (ps_set (i := 6) scLaw.nd rfl (Or.inl rfl) (pe_lst (pa_cons pe_str (pa_cons pe_str pa_nil)))) (pss_cons (ps_if (pt_val (pv 4)) (pss_cons (ps_set (i := 5) scLaw.nd rfl (Or.inl rfl) (pe_df D_compare_within (hr.mono (by decide)) (by rfl) (pa_cons (pv 2) (pa_cons (pv 3) pa_nil)))) (pss_one (ps_set (i := 6) scLaw.nd rfl (Or.inl rfl) (pe_lst (pa_cons pe_str (pa_cons pe_str pa_nil)))))) pss_nil) (pss_cons (ps_set (i := 7) scLaw.nd rfl (Or.inl rfl) (pe_df D__law_search (hr.mono (by decide)) (by rfl) (pa_cons (pv 2) (pa_cons (pv 3) (pa_cons (pv 4) pa_nil))))) (pss_cons (ps_if (pt_cmpR op_isN (pv 7) pe_non (nomark _)) (pss_one (ps_ret pe_bl)) pss_nil) (pss_cons (ps_if (pt_cmpR op_isN (pe_ix (ix_tupK (K := K) rfl) (pv 7) pe_int (fun _ _ => rfl)) pe_non (nomark _)) (pss_one (ps_if (PW.pt (pw_or (pt_cmpR (op_neDK (K := K) rfl hu64) (pv 5) (pe_tup (pa_cons (pe_ix (ix_listK (K := K) rfl) (pv 6) pe_int (fun _ _ => rfl)) (pa_cons (pe_ix (ix_tupK (K := K) rfl) (pv 7) pe_int (fun _ _ => rfl)) pa_nil))) (nomark _)) (pw_or1 (pt_cmpR op_notBl (pe_kw D_accepts_paper (hr.mono (by decide)) (by rfl) (pa_cons (pv 2) (pa_cons (pv 3) (pa_cons (pe_ix (ix_tupK (K := K) rfl) (pv 7) pe_int (fun _ _ => rfl)) pa_nil))) (pk_cons (pv 4) pk_nil)) pe_bl (nomark _))))) (pss_one (ps_ret pe_bl)) pss_nil)) (pss_one (ps_if (PW.pt (pw_or (pt_cmpR (op_neDK (K := K) rfl hu64) (pv 5) (pe_tup (pa_cons (pe_ix (ix_listK (K := K) rfl) (pv 6) pe_int (fun _ _ => rfl)) (pa_cons (pe_ix (ix_tupK (K := K) rfl) (pv 7) pe_int (fun _ _ => rfl)) pa_nil))) (nomark _)) (pw_or1 (pt_not (pt_val (pe_df D__law_parts (hr.mono (by decide)) (by rfl) (pa_cons (pv 2) (pa_cons (pv 3) (pa_cons (pv 4) (pa_cons (pe_ix (ix_tupK (K := K) rfl) (pv 7) pe_int (fun _ _ => rfl)) pa_nil)))))))))) (pss_one (ps_ret pe_bl)) pss_nil))) (pss_one (ps_for PassesOwn.never rfl (pi_list (pe_df D__law_all_chains (hr.mono (by decide)) (by rfl) (pa_cons (pe_df D__law_members (hr.mono (by decide)) (by rfl) (pa_cons (pv 2) (pa_cons (pv 3) pa_nil))) pa_nil))) (pg_name (i := 8) scLaw.nd rfl (Or.inl rfl) (Or.inr rfl)) (pss_one (ps_if (pt_val (pe_df D__law_parts (hr.mono (by decide)) (by rfl) (pa_cons (pv 2) (pa_cons (pv 3) (pa_cons (pv 4) (pa_cons (pv 8) pa_nil)))))) (pss_one (ps_if (PW.pt (pw_or (pt_cmpR op_isN (pe_ix (ix_tupK (K := K) rfl) (pv 7) pe_int (fun _ _ => rfl)) pe_non (nomark _)) (pw_or1 (pt_cmpR (op_gtDK (K := K) rfl hu64) (pe_tup (pa_cons (pe_callB (cr_lenK (K := K) rfl) (by rfl) T.mlen PySem.boot_len (pa_cons (pe_ix (ix_tupK (K := K) rfl) (pv 7) pe_int (fun _ _ => rfl)) pa_nil)) (pa_cons (pe_ix (ix_tupK (K := K) rfl) (pv 7) pe_int (fun _ _ => rfl)) pa_nil))) (pe_tup (pa_cons (pe_callB (cr_lenK (K := K) rfl) (by rfl) T.mlen PySem.boot_len (pa_cons (pv 8) pa_nil)) (pa_cons (pv 8) pa_nil))) (nomark _))))) (pss_one (ps_ret pe_bl)) pss_nil)) pss_nil))))))))))) (pss_cons (ps_if (PW.pt (pw_or (pt_cmpR op_ne (pe_ix (ix_tupK (K := K) rfl) (pe_df D_compare (hr.mono (by decide)) (by rfl) (pa_cons (pv 2) (pa_cons (pe_callTy (cr_listK (K := K) rfl) (by rfl) T.mlist (by decide +kernel) (pa_cons (pv 2) pa_nil)) pa_nil))) pe_int (fun _ _ => rfl)) pe_str (nomark _)) (pw_or1 (pt_cmpR op_ne (pe_df D_takes (hr.mono (by decide)) (by rfl) (pa_cons (pv 2) (pa_cons (pe_lst (pa_cons pe_str pa_nil)) pa_nil))) (pe_df D__law_takes (hr.mono (by decide)) (by rfl) (pa_cons (pv 2) (pa_cons (pe_lst (pa_cons pe_str pa_nil)) pa_nil))) (nomark _))))) (pss_one (ps_ret pe_bl)) pss_nil) (pss_cons (ps_set (i := 9) scLaw.nd rfl (Or.inl rfl) (pe_lst (pa_cons (pe_tup (pa_cons pe_str (pa_cons pe_str (pa_cons (pe_lst pa_nil) pa_nil)))) pa_nil))) (pss_one (ps_ret (pe_or (pe_cmpR op_eq (pe_ix (ix_tupK (K := K) rfl) (pe_ix (ix_listK (K := K) rfl) (pv 2) (pe_un un_neg pe_int) (fun _ _ => rfl)) pe_int (fun _ _ => rfl)) pe_str (nomark _)) (pe_or (pe_callB (cr_any rfl) (by rfl) T.many (by decide +kernel) (pa_cons (pe_lc (own := [("_law_step", 10)]) rfl scLaw.nd (pi_list (pv 2)) (blkOk_by (own := [("_law_step", 10)]) (N := ["_law_script", "_law_row", "_law_first", "_law_second", "_law_within", "_law_told", "_law_words", "_law_due_here", "_law_chain", "_law_wide", "_law_step"]) (sc := defScope sLaw) (by decide +kernel)) (fun _ _ _ _ _ => (pg_name (i := 10) scLaw.nd rfl (Or.inl rfl) (Or.inr rfl))) (fun _ _ _ _ _ => pts_nil) (fun _ _ _ _ _ => (pe_cmpR op_eq (pe_ix (ix_tupK (K := K) rfl) (pv 10) pe_int (fun _ _ => rfl)) pe_str (nomark _)))) pa_nil)) (pe_one (pe_cmpR op_eq (pe_ix (ix_tupK (K := K) rfl) (pe_df D_compare_within (hr.mono (by decide)) (by rfl) (pa_cons (pv 2) (pa_cons (pv 9) pa_nil))) pe_int (fun _ _ => rfl)) pe_str (nomark _))))))))))))), ?_⟩
  refine ⟨_, rfl, fun _ => none, a, ns, 110, rfl, by decide, (fun _ _ e => by cases e), sq, hns, fun l H1 is G1 hl e1 => ?_⟩
  -- the questions
  have W1 : Gw l (fun _ => none) H1 (fun _ => none) H1 := .refl G1.s rfl
  refine er_steps (Hd := fun _ => none) (i := 1) (σ := [some (.ref a), some (.ref l), none, none, none, none, none, none, none, none, none]) rfl _ H1 is (Same.refl _) G1.s rfl e1 _ fun v2 d2 Hd2 H2 is2 W2 e2 x2 ⟨q1, hd2, hq1⟩ => ?_
  subst hd2
  refine (er_op (P2 := fun d => ∃ q, d = quesD q ∧ Q0 q) (er_lst (era_cons (er_steps (i := 1) (σ := [some (.ref a), some (.ref l), some v2, none, none, none, none, none, none, none, none]) rfl) (era_cons (er_near (i := 1) (j := 2) rfl rfl x2 hq1) (era_cons (er_cb (P := (· = quesD q1)) (era_cons (er_var (i := 2) rfl x2) era_nil) fun ds h => ?ga) era_nil))) fun ds h => ?gb) (er_takeC (i := 1) (n := 3) rfl (by decide)) fun d e ⟨ds, hd, h⟩ ⟨r, he, h0, h1⟩ => ?gc) Hd2 H2 is2 (Same.refl _) W2.s W2.z e2 _ fun v3 d3 Hd3 H3 is3 W3 e3 x3 ⟨q2, hd3, hq2⟩ => ?gd
  case ga =>
    obtain ⟨d1, es, rfl, rfl, rfl⟩ := h
    exact ⟨_, rc_list, rfl⟩
  case gb =>
    obtain ⟨d1, e1, rfl, _, d2, e2, rfl, _, d3, e3, rfl, _, rfl⟩ := h
    show 3 ≤ 1000
    decide
  case gc =>
    obtain ⟨d1, e1, rfl, ⟨qa, rfl, ha⟩, d2, e2, rfl, ⟨qb, rfl, hb⟩, d3, e3, rfl, rfl, rfl⟩ := h
    subst hd
    subst he
    obtain ⟨j, rfl⟩ : ∃ j : Nat, r = (j : Int) := ⟨r.toNat, by omega⟩
    rcases (by omega : j = 0 ∨ j = 1 ∨ j = 2) with e | e | e <;> subst e
    · exact ⟨_, rd_ixL rfl, _, rfl, ha⟩
    · exact ⟨_, rd_ixL rfl, _, rfl, hb⟩
    · exact ⟨_, rd_ixL rfl, _, rfl, hq1⟩
  case gd =>
  subst hd3
  have y2 : Dt Hd3 v2 (quesD q1) := x2.mono W3.d
  have hQ : Qs q1 q2 := ⟨hq1.1, hq2.1, hq1.2, hq2.2⟩
  have hml := mems_len q1 q2
  have G3 : Gr Hd3 H3 Hd3 H3 := .refl W3.s
  have fin : ∀ v Hd' H', Gr Hd3 H3 Hd' H' → Dt Hd' v (.bool true) → Q v H' := fun v Hd' H' _ x => by
    rw [x.bl_of]
    exact k H'
  refine q_for (ds := [.bool false, .bool true]) G3 (ed_lst (ea_cons ed_bl (ea_cons ed_bl ea_nil))) (fun _ σ Hd' H' => ∃ a4 a5 a6 a7 a8, σ = [some (.ref a), some (.ref l), some v2, some v3, a4, a5, a6, a7, a8, none, none] ∧ Gr Hd3 H3 Hd' H')
    (fun Hd' H' G4 g4 => ⟨none, none, none, none, none, rfl, G4⟩) (fun Hd4 sd4 i d x σ Hd' H' hi sd sh xd ⟨a4, a5, a6, a7, a8, hσ, G4⟩ => ?_) fun σ Hd' H' sd sh ⟨a4, a5, a6, a7, a8, hσ, G4⟩ => ?_
  · obtain ⟨w, rfl⟩ : ∃ w, d = .bool w := by
      rcases (List.mem_of_getElem? hi) with _ | ⟨_, _ | ⟨_, h⟩⟩
      · exact ⟨_, rfl⟩
      · exact ⟨_, rfl⟩
      · cases h
    subst hσ
    obtain ⟨r0, hr0⟩ := go_res false hQ.1.2 hQ.2.1.2
    obtain ⟨r1, hr1⟩ := go_res w hQ.1.2 hQ.2.1.2
    refine q_asg (d := saidD "alike" "apart" r0) G4 (ed_call (ea_cons (ed_var rfl (y2.mono G4.d)) (ea_cons (ed_var rfl (x3.mono G4.d)) ea_nil)) ⟨q1, q2, r0, rfl, hQ, hr0, rfl⟩) fun u5 Hd5 H5 G5 g5 x5 => ?_
    refine q_asg (d := .list [.str "alike", .str "apart"]) G5 (ed_lst (ea_cons ed_str (ea_cons ed_str ea_nil))) fun u6 Hd6 H6 G6 g6 x6 => ?_
    refine q_whenK (fun σ' H' => ∃ Hd' u5 u6, σ' = [some (.ref a), some (.ref l), some v2, some v3, some x, some u5, some u6, a7, a8, none, none] ∧ Gr Hd3 H3 Hd' H' ∧ Same Hd6 Hd' ∧ Dt Hd' u5 (saidD (yesW w) (noW w) r1) ∧ Dt Hd' u6 (.list [.str (yesW w), .str (noW w)])) G6 (et_B (ed_var rfl (xd.mono (g5.d.trans g6.d)))) (fun hb H7 G7 g7 N hN => ?_) (fun hb H7 G7 g7 => ?_) fun σ' H' ⟨Hd7, u5, u6, hσ, G7, s7, y5, y6⟩ => ?_
    · subst hb
      refine q_asg (d := saidD "within" "outside" r1) G7 (ed_call (ea_cons (ed_var rfl (y2.mono G7.d)) (ea_cons (ed_var rfl (x3.mono G7.d)) ea_nil)) ⟨q1, q2, r1, rfl, hQ, hr1, rfl⟩) fun u7 Hd8 H8 G8 g8 x8 => ?_
      refine s_asg (d := .list [.str "within", .str "outside"]) G8 (ed_lst (ea_cons ed_str (ea_cons ed_str ea_nil))) fun u8 Hd9 H9 G9 g9 x9 => hN _ _ ⟨Hd9, u7, u8, rfl, G9, g8.d.trans g9.d, x8.mono g9.d, x9⟩
    · subst hb
      rw [hr0] at hr1
      have e : r0 = r1 := Option.some.inj hr1
      subst e
      exact ⟨Hd6, u5, u6, rfl, G7, Same.refl _, x5.mono g6.d, x6⟩
    subst hσ
    have sx : Same Hd' Hd7 := (g5.d.trans g6.d).trans s7
    have z4 : Dt Hd7 x (.bool w) := xd.mono sx
    refine q_asg (d := tell? (go w q1 q2 200 0 [])) G7 (ed_call (ea_cons (ed_var rfl (y2.mono G7.d)) (ea_cons (ed_var rfl (x3.mono G7.d)) (ea_cons (ed_var rfl z4) ea_nil))) ⟨q1, q2, w, rfl, hQ, rfl⟩) fun u7 Hd8 H8 G8 g8 x8 => ?_
    cases hg : go w q1 q2 200 0 [] with
    | none =>
      rw [hg] at x8
      refine q_when (b := true) G8 (et_test (ed_op (ed_var rfl x8) ed_non rd_isN)) (fun _ H9 G9 g9 => ?_) fun hb => Bool.noConfusion hb
      exact s_ret G9 ed_bl fin
    | some r =>
      have er : r = r1 := by
        have := go_more 826 hg
        rw [show 200 + 826 = 1026 from rfl, hr1] at this
        exact (Option.some.inj this).symm
      subst er
      rw [hg] at x8
      have sp := go_spec (bfs_nil w q1 q2) hg
      have a2 := y2.mono G8.d
      have a3 := x3.mono G8.d
      have a4' := z4.mono g8.d
      have b5 := y5.mono g8.d
      have b6 := y6.mono g8.d
      cases r with
      | error c =>
        have told : Told w q1 q2 c := sp
        refine q_when (b := false) G8 (et_test (ed_op (ed_var rfl x8) ed_non rd_isN)) (fun hb => Bool.noConfusion hb) fun _ H9 G9 g9 => ?_
        refine q_if (b := false) G9 (et_test (ed_op (ed_op (ed_var rfl x8) ed_int (rd_ixT (j := 1) (d := chainD c) rfl)) ed_non rd_isN)) (fun hb => Bool.noConfusion hb) fun _ HA GA gA => ?_
        refine s_when (b := false) GA ((et_or (et_test (ed_op (ed_var rfl b5) (ed_tup (ea_cons (ed_op (ed_var rfl b6) ed_int (rd_ixL (j := 1) rfl)) (ea_cons (ed_op (ed_var rfl x8) ed_int (rd_ixT (j := 1) (d := chainD c) rfl)) ea_nil))) (rd_neD ((fit_said w (.error c)).shaped (by decide)) ((fit_said w (.error c)).shaped (by decide))))) fun _ => et_not (et_B (ed_call (ea_cons (ed_var rfl a2) (ea_cons (ed_var rfl a3) (ea_cons (ed_var rfl a4') (ea_cons (ed_op (ed_var rfl x8) ed_int (rd_ixT (j := 1) (d := chainD c) rfl)) ea_nil)))) ⟨q1, q2, w, c, rfl, hQ.1, hQ.2.1, rfl⟩))).is ?_) (fun hb => Bool.noConfusion hb) fun _ HB GB gB => ?_
        · rw [told.parts]
          show (!PyData.eqv (saidD (yesW w) (noW w) (.error c)) (saidD (yesW w) (noW w) (.error c)) || false) = false
          rw [said_refl]
          rfl
        refine s_for (ds := (allCh (mems q1 q2) 3).2.map chainD) GB (ed_call (ea_cons (ed_call (ea_cons (ed_var rfl a2) (ea_cons (ed_var rfl a3) ea_nil)) ⟨q1, q2, rfl, hQ.1, hQ.2.1, hQ.2.2.1, hQ.2.2.2, rfl⟩) ea_nil) ⟨mems q1 q2, rfl, hml, rfl⟩) (fun _ σ Hd' H' => ∃ a8, σ = [some (.ref a), some (.ref l), some v2, some v3, some x, some u5, some u6, some u7, a8, none, none] ∧ Gr Hd3 H3 Hd' H')
          (fun HdC HC GC gC => ⟨_, rfl, GC⟩) (fun HdC sdC j d xc σ HdD HD hj sdD shD xcd ⟨a8, hσ, GD⟩ => ?_) fun σ HdC HC sdC shC ⟨a8, hσ, GC⟩ => ⟨HdC, sd.trans (sx.trans (g8.d.trans sdC)), shC, _, _, _, _, _, hσ, GC⟩
        obtain ⟨cc, hcc, rfl⟩ := chains_get hj
        obtain ⟨y, m, rfl, hy, hm, hne⟩ := (allCh_ok (mems q1 q2) 3).2 cc (List.mem_of_getElem? hcc)
        subst hσ
        have sD : Same Hd8 HdD := sdC.trans sdD
        refine s_when GD (et_B (ed_call (ea_cons (ed_var rfl (a2.mono sD)) (ea_cons (ed_var rfl (a3.mono sD)) (ea_cons (ed_var rfl (a4'.mono sD)) (ea_cons (ed_var rfl xcd) ea_nil)))) ⟨q1, q2, w, y ++ [m], rfl, hQ.1, hQ.2.1, rfl⟩)) (fun hp HE GE gE => ?_) fun _ HE GE gE => ⟨HdD, sdD, GE.s, _, rfl, GE⟩
        have z8 := x8.mono sD
        refine s_when (b := false) GE ((et_or (et_test (ed_op (ed_op (ed_var rfl z8) ed_int (rd_ixT (j := 1) (d := chainD c) rfl)) ed_non rd_isN)) fun _ => et_test (ed_op ((ed_tup (ea_cons (ed_cb (ea_cons (ed_op (ed_var rfl z8) ed_int (rd_ixT (j := 1) (d := chainD c) rfl)) ea_nil) rc_len) (ea_cons (ed_op (ed_var rfl z8) ed_int (rd_ixT (j := 1) (d := chainD c) rfl)) ea_nil))).is (e := lenD c) (by rw [List.length_map, List.length_map]; rfl)) ((ed_tup (ea_cons (ed_cb (ea_cons (ed_var rfl xcd) ea_nil) rc_len) (ea_cons (ed_var rfl xcd) ea_nil))).is (e := lenD (y ++ [m])) (by rw [List.length_map, List.length_map]; rfl)) (rd_gtD (alike_len _ _) (fun z => by cases z) ((fit_sq ((fit_int _).mono (Nat.zero_le 1)) (fit_chain c)).mono (by decide : 2 ≤ 64)).dp))).is ?_) (fun hb => Bool.noConfusion hb) fun _ HF GF gF => ⟨HdD, sdD, GF.s, _, rfl, GF⟩
        rw [gt_len, told.notGt hy hm hne hp]
        rfl
      | ok acc =>
        have paper : Paper w q1 q2 acc := sp
        have few := go_few (few_nil q1 q2) hg
        have hall : ∀ p ∈ acc.map (·.1), p ∈ allPr q1 q2 := fun p hp => by
          obtain ⟨e, he, rfl⟩ := List.mem_map.mp hp
          exact few.all e he
        have hlen : (acc.map (·.1)).length ≤ 1024 := by
          rw [List.length_map]
          exact few.len hQ.1.2 hQ.2.1.2
        have hok : okAll w q1 q2 (acc.map (·.1)) = true := List.all_eq_true.mpr paper.ok
        refine q_when (b := false) G8 (et_test (ed_op (ed_var rfl x8) ed_non rd_isN)) (fun hb => Bool.noConfusion hb) fun _ H9 G9 g9 => ?_
        have pd : Rd2 (rIxT K) (tellD (.ok acc)) (.int 0) (pairsD (acc.map (·.1))) := rd_ixT (j := 0) rfl
        refine q_if (b := true) G9 (et_test (ed_op (ed_op (ed_var rfl x8) ed_int (rd_ixT (j := 1) (d := .none) rfl)) ed_non rd_isN)) (fun _ HA GA gA => ?_) fun hb => Bool.noConfusion hb
        refine s_when (b := false) GA ((et_or (et_test (ed_op (ed_var rfl b5) (ed_tup (ea_cons (ed_op (ed_var rfl b6) ed_int (rd_ixL (j := 0) rfl)) (ea_cons (ed_op (ed_var rfl x8) ed_int pd) ea_nil))) (rd_neD ((fit_said w (.ok acc)).shaped (by decide)) ((fit_said w (.ok acc)).shaped (by decide))))) fun _ => et_test (ed_op (ed_callN (ea_cons (ed_var rfl a2) (ea_cons (ed_var rfl a3) (ea_cons (ed_op (ed_var rfl x8) ed_int pd) ea_nil))) (ea_cons (ed_var rfl a4') ea_nil) rfl rfl ⟨q1, q2, w, acc.map (·.1), rfl, hQ, hall, hlen, rfl⟩) ed_bl rd_notB)).is ?_) (fun hb => Bool.noConfusion hb) fun _ HB GB gB => ?_
        · rw [hok]
          show (!PyData.eqv (saidD (yesW w) (noW w) (.ok acc)) (saidD (yesW w) (noW w) (.ok acc)) || false) = false
          rw [said_refl]
          rfl
        refine s_for (ds := (allCh (mems q1 q2) 3).2.map chainD) GB (ed_call (ea_cons (ed_call (ea_cons (ed_var rfl a2) (ea_cons (ed_var rfl a3) ea_nil)) ⟨q1, q2, rfl, hQ.1, hQ.2.1, hQ.2.2.1, hQ.2.2.2, rfl⟩) ea_nil) ⟨mems q1 q2, rfl, hml, rfl⟩) (fun _ σ Hd' H' => ∃ a8, σ = [some (.ref a), some (.ref l), some v2, some v3, some x, some u5, some u6, some u7, a8, none, none] ∧ Gr Hd3 H3 Hd' H')
          (fun HdC HC GC gC => ⟨_, rfl, GC⟩) (fun HdC sdC j d xc σ HdD HD hj sdD shD xcd ⟨a8, hσ, GD⟩ => ?_) fun σ HdC HC sdC shC ⟨a8, hσ, GC⟩ => ⟨HdC, sd.trans (sx.trans (g8.d.trans sdC)), shC, _, _, _, _, _, hσ, GC⟩
        obtain ⟨cc, hcc, rfl⟩ := chains_get hj
        obtain ⟨y, m, rfl, hy, hm, hne⟩ := (allCh_ok (mems q1 q2) 3).2 cc (List.mem_of_getElem? hcc)
        subst hσ
        have sD : Same Hd8 HdD := sdC.trans sdD
        refine s_when (b := false) GD ((et_B (ed_call (ea_cons (ed_var rfl (a2.mono sD)) (ea_cons (ed_var rfl (a3.mono sD)) (ea_cons (ed_var rfl (a4'.mono sD)) (ea_cons (ed_var rfl xcd) ea_nil)))) ⟨q1, q2, w, y ++ [m], rfl, hQ.1, hQ.2.1, rfl⟩)).is (paper.none hy hm hne)) (fun hb => Bool.noConfusion hb) fun _ HE GE gE => ⟨HdD, sdD, GE.s, _, rfl, GE⟩
  · subst hσ
    obtain ⟨rs, hrs⟩ := go_res false (q1 := q1) (q2 := q1) hQ.1.2 hQ.1.2
    have hQ1 : Qs q1 q1 := ⟨hq1.1, hq1.1, hq1.2, hq1.2⟩
    obtain ⟨acs, rfl⟩ : ∃ acs, rs = .ok acs := by
      cases rs with
      | ok acs => exact ⟨acs, rfl⟩
      | error c => exact (Told.self (show Told false q1 q1 c from go_spec (bfs_nil false q1 q1) hrs)).elim
    have b2 := y2.mono G4.d
    have la1 : ∀ {σ : L2.St} {H : Hp} {Hd : Hp}, Ed (tLst (tCons (tC (.str "a")) tNil)) σ H Hd (chainD [.la]) := fun {σ H Hd} => ed_lst (ea_cons (d := .str "a") ed_str ea_nil)
    refine q_when (b := false) G4 ((et_or (et_test (ed_op (ed_op (d := saidD "alike" "apart" (.ok acs)) (ed_call (ea_cons (ed_var rfl b2) (ea_cons (ed_cb (ea_cons (ed_var rfl b2) ea_nil) rc_list) ea_nil)) ⟨q1, q1, _, rfl, hQ1, hrs, rfl⟩) ed_int (rd_ixT (j := 0) rfl)) ed_str (rd_neS (i := "alike")))) fun _ => et_test (ed_op (ed_call (ea_cons (ed_var rfl b2) (ea_cons la1 ea_nil)) ⟨q1, [.la], rfl, hQ.1, rfl⟩) (ed_call (ea_cons (ed_var rfl b2) (ea_cons la1 ea_nil)) ⟨q1, [.la], rfl, hQ.1, rfl⟩) rd_neB)).is ?_) (fun hb => Bool.noConfusion hb) fun _ H5 G5 g5 => ?_
    · rw [beq_self_eq_true]
      simp
    refine q_asg (d := quesD wide) G5 (ed_lst (ea_cons (ed_tup (ea_cons (ed_str (x := "below")) (ea_cons (ed_str (x := "*")) (ea_cons (ed_lst ea_nil) ea_nil)))) ea_nil)) fun u9 Hd6 H6 G6 g6 x6 => ?_
    have c2 := b2.mono g6.d
    have hW : Qs q1 wide := ⟨hq1.1, ⟨by decide, by decide⟩, hq1.2, fun s hs => by rw [List.mem_singleton.mp hs]; decide⟩
    obtain ⟨rw', hrw⟩ := go_res true (q1 := q1) (q2 := wide) hQ.1.2 (by decide)
    obtain ⟨q0, st, hsplit⟩ : ∃ q0 st, q1 = q0 ++ [st] := by
      rcases List.eq_nil_or_concat q1 with e | ⟨y, m, e⟩
      · have := hq1.1.1
        rw [e] at this
        cases this
      · exact ⟨y, m, by rw [e, List.concat_eq_append]⟩
    have hds : q1.map stepD = q0.map stepD ++ [stepD st] := by rw [hsplit, List.map_append]; rfl
    have hlast : Rd2 (rIxL K) (quesD q1) (.int (-1)) (stepD st) := by
      unfold quesD
      rw [hds]
      exact rd_ixLast
    have hx1 : decide (st.2.s = ("#" : Str)) = decide (st.2 = .hash) := by
      show decide (st.2.s = Sy.hash.s) = _
      simp only [Sy.s_eq]
    have hany : ∀ H Hd', Same Hd6 Hd' → Ed _ _ H Hd' (.bool ((q1.map fun s => decide (s.2 = Sy.hash)).any id)) := fun H Hd' sD => ed_cb (ea_cons ((ed_lcMap (K := K) (g := gName 10) (te := tOp rEq (tOp (rIxT K) (tVar 10) (tC (.int 1))) (tC (.str "#"))) (vs := [10]) (σ := [some (.ref a), some (.ref l), some v2, some v3, a4, a5, a6, a7, a8, some u9, none]) stepD (fun s => .bool (decide (s.2 = Sy.hash))) q1 (ed_var (i := 2) rfl (c2.mono sD)) (by have := hq1.1.2; omega) fun Hd7 H7 u s hs x hx => ⟨_, tg_name, rfl, (ed_op (ed_op (ed_var rfl hx) ed_int (rd_ixT (j := 1) rfl)) ed_str rd_eqS).is (by
      have e : decide (s.2.s = ("#" : Str)) = decide (s.2 = .hash) := by
        show decide (s.2.s = Sy.hash.s) = _
        simp only [Sy.s_eq]
      rw [e])⟩).is (e := .list ((q1.map fun s => decide (s.2 = Sy.hash)).map PyData.bool)) (by rw [List.map_map]; rfl)) ea_nil) (rc_any (K := K))
    by_cases hh : (q1.map fun s => decide (s.2 = Sy.hash)).any id = true
    · refine s_ret G6 ((ed_orV (ed_op (ed_op (ed_op (ed_var rfl c2) ed_m1 hlast) ed_int (rd_ixT (j := 1) rfl)) ed_str rd_eqS) fun _ => ed_orV (c := true) (hany _ _ (Same.refl _)) fun hf => absurd hh (by rw [hf]; exact Bool.false_ne_true)).is ?_) fin
      rw [hh]
      simp
    · have hno : ∀ s ∈ q1, s.2 ≠ Sy.hash := fun s hs e => hh (List.any_eq_true.mpr ⟨true, List.mem_map.mpr ⟨s, hs, by rw [e]; rfl⟩, rfl⟩)
      obtain ⟨acw, rfl⟩ : ∃ acw, rw' = .ok acw := by
        cases rw' with
        | ok acw => exact ⟨acw, rfl⟩
        | error c => exact (Told.wide (show Told true q1 wide c from go_spec (bfs_nil true q1 wide) hrw) hno (fun e => by have := hq1.1.1; rw [e] at this; cases this)).elim
      refine s_ret G6 ((ed_orV (ed_op (ed_op (ed_op (ed_var rfl c2) ed_m1 hlast) ed_int (rd_ixT (j := 1) rfl)) ed_str rd_eqS) fun _ => ed_orV (hany _ _ (Same.refl _)) fun _ => ed_op (ed_op (d := saidD "within" "outside" (.ok acw)) (ed_call (ea_cons (ed_var rfl c2) (ea_cons (ed_var rfl x6) ea_nil)) ⟨q1, wide, _, rfl, hW, hrw, rfl⟩) ed_int (rd_ixT (j := 0) rfl)) ed_str (rd_eqS (i := "within"))).is ?_) fin
      simp
end
end T45

/-! What the top has written; the head. -/
namespace T45
open PySem PySem.Spec PyProof.Rows L2
/-- a def of the top -/
def Has (K : PySem.W.Frag) (mg : Str → Option Value) (x : Str) (st : Stmt) : Prop := ∃ f fd, Fun K x x st f fd ∧ mg x = some (.ref f)
/-- a method -/
def HasM (K : PySem.W.Frag) (C : Addr) (x qual : Str) (st : Stmt) : Prop := ∃ f fd, Fun K x qual st f fd ∧ Meth K C x f
/-- the def with a default -/
def HasD (K : PySem.W.Frag) (mg : Str → Option Value) (x : Str) (st : Stmt) (dvs : List V) : Prop := ∃ f fd, FunD K x x (defArgs st) (defBody st) (defScope st) dvs [] f fd ∧ mg x = some (.ref f)
section
variable {K : PySem.W.Frag} {mg : Str → Option Value} {h : Heap} {f C : Addr} {x qual : Str} {st : Stmt} {oc : Value} {od an : Option Addr} {osl : Array (Option Value)} {kV doc pm cdv ct : Value}
theorem has_mk (X : K.In h) (G : h.Ns mainGlobals mg) (a : PySem.W.nsIn K mainGlobals x = some (some (.ref f))) (l : K.lookup f = some ⟨oc, od, .func (PySem.W.fnOf x x (defArgs st) (defBody st) (defScope st) .none kV doc pm an cdv ct), osl⟩)
    (c : PySem.W.codeIn K cdv x = true) (k : PySem.W.keepIn K (.ref f) = true) : Has K mg x st := ⟨_, _, fun_mk l c k, PySem.W.mg_of X G a⟩
theorem hasM_mk (a : PySem.W.findIn K (.ref C) x = some (some (.ref f))) (i : PySem.W.isFn K (.ref f) = true) (l : K.lookup f = some ⟨oc, od, .func (PySem.W.fnOf x qual (defArgs st) (defBody st) (defScope st) .none kV doc pm an cdv ct), osl⟩)
    (c : PySem.W.codeIn K cdv qual = true) (k : PySem.W.keepIn K (.ref f) = true) : HasM K C x qual st := ⟨_, _, fun_mk l c k, a, i, k⟩
theorem hasD_mk {D : Addr} {o : Obj} {its : List Value} {n : Nat} {dvs : List V} (X : K.In h) (G : h.Ns mainGlobals mg) (a : PySem.W.nsIn K mainGlobals x = some (some (.ref f))) (l : K.lookup f = some ⟨oc, od, .func (PySem.W.fnOf x x (defArgs st) (defBody st) (defScope st) (.ref D) kV doc pm an cdv ct), osl⟩)
    (c : PySem.W.codeIn K cdv x = true) (k : PySem.W.keepIn K (.ref f) = true) (t : K.lookup D = some o) (e : o.data = .seq its.toArray n) (r : Vals dvs its) (ne : dvs ≠ []) : HasD K mg x st dvs := ⟨_, _, ⟨⟨oc, od, _, kV, doc, pm, an, cdv, ct, osl, rfl, l, c, .inr ⟨ne, D, o, its, n, rfl, t, e, r⟩, .inl rfl⟩, k⟩, PySem.W.mg_of X G a⟩
end
/-- the class -/
structure Txc (K : PySem.W.Frag) (mg : Str → Option Value) (C : Addr) : Prop where
  cL : Cl K C
  mC : mg "Comparison" = some (.ref C)
  mkC : PySem.W.makesIn K C = true
  kc : PySem.W.keepIn K (.ref C) = true
  x___init__ : HasM K C "__init__" "Comparison.__init__" sComparisonInit
  x_agrees : HasM K C "agrees" "Comparison.agrees" sComparisonAgrees
  x_after : HasM K C "after" "Comparison.after" sComparisonAfter
  x_is_proper_pair : HasM K C "is_proper_pair" "Comparison.is_proper_pair" sComparisonIsProperPair
  x_begun : HasM K C "begun" "Comparison.begun" sComparisonBegun
  x_going_on : HasM K C "going_on" "Comparison.going_on" sComparisonGoingOn
  x_accepts : HasM K C "accepts" "Comparison.accepts" sComparisonAccepts
  x_search : HasM K C "search" "Comparison.search" sComparisonSearch
/-- the text -/
structure Txt (K : PySem.W.Frag) (mg : Str → Option Value) : Prop where
  T : Tx mg
  c : ∃ C, Txc K mg C
  x_passes : Has K mg "passes" sPasses
  x_moved : Has K mg "moved" sMoved
  x_is_name : Has K mg "is_name" sIsName
  x_step_count : Has K mg "step_count" sStepCount
  x_has_form : Has K mg "has_form" sHasForm
  x_is_proper : Has K mg "is_proper" sIsProper
  x_check : Has K mg "check" sCheck
  x_takes : Has K mg "takes" sTakes
  x_other_name : Has K mg "other_name" sOtherName
  x_members : Has K mg "members" sMembers
  x_are_places : Has K mg "are_places" sArePlaces
  x_compare : Has K mg "compare" sCompare
  x_compare_within : Has K mg "compare_within" sCompareWithin
  x__law_mix : Has K mg "_law_mix" sLawMix
  x__law_numbers : Has K mg "_law_numbers" sLawNumbers
  x__law_take : Has K mg "_law_take" sLawTake
  x__law_steps : Has K mg "_law_steps" sLawSteps
  x__law_next : Has K mg "_law_next" sLawNext
  x__law_takes : Has K mg "_law_takes" sLawTakes
  x__law_members : Has K mg "_law_members" sLawMembers
  x__law_agree : Has K mg "_law_agree" sLawAgree
  x__law_parts : Has K mg "_law_parts" sLawParts
  x__law_due : Has K mg "_law_due" sLawDue
  x__law_begun : Has K mg "_law_begun" sLawBegun
  x__law_search : Has K mg "_law_search" sLawSearch
  x__law_near : Has K mg "_law_near" sLawNear
  x__law_all_chains : Has K mg "_law_all_chains" sLawAllChains
  x_law : Has K mg "law" sLaw
  x_accepts_paper : HasD K mg "accepts_paper" sAcceptsPaper [.bl false]
section
variable {P : Program} {w : World} {K : PySem.W.Frag} {mg : Str → Option Value} {base : Heap}
theorem kb_accepts {f : Addr} {fd : FuncData} (F : FunD K "accepts_paper" "accepts_paper" (defArgs sAcceptsPaper) (defBody sAcceptsPaper) (defScope sAcceptsPaper) [.bl false] [] f fd) : ∃ g, KBn K fd ["first", "second", "paper", "within"] 3 ["within"] g fun vs zs => vs ++ zs := by
  obtain ⟨its, b⟩ := F.kbindsD (ps := ["first", "second", "paper", "within"]) 3 ["within"] (fun us _ ws => us ++ ws) (by simp) (fun a _ c => a.append c) fun T kV doc pm an cdv ct us its ws l1 l2 l3 => match us, its, ws, l1, l2, l3 with
    | [_, _, _], [_], [_], _, _, _ => ⟨_, rfl, rfl⟩
  exact ⟨_, b⟩
theorem law_binds {f : Addr} {fd : FuncData} (F : Fun K "law" "law" sLaw f fd) : ∀ (s : Shared) (u : Value), BindsTo s fd ⟨[u], []⟩ [("_law_script", u)] := by
  obtain ⟨oc, od, kV, doc, pm, an, cdv, ct, osl, rfl, lk, hcd⟩ := F.ex
  exact fun s u => .of_eq rfl
theorem all_ok (X : Txt K mg) {f : Addr} {fd : FuncData} (F : Fun K "law" "law" sLaw f fd) (m : mg "law" = some (.ref f)) : FnOk P w K mg base CX0 9 f fd ["_law_script"] (spLaw K) := by
  have T := X.T
  obtain ⟨C, Y⟩ := X.c
  have cL := Y.cL
  obtain ⟨_, _, F_passes, m_passes⟩ := X.x_passes
  have E_passes : Fd K mg "passes" sPasses ["test", "member"] _ _ := ⟨F_passes, m_passes, F_passes.binds fun _ _ _ _ _ _ us hl => match us, hl with | [_, _], _ => rfl⟩
  obtain ⟨_, _, F_moved, m_moved⟩ := X.x_moved
  have E_moved : Fd K mg "moved" sMoved ["question", "places", "member"] _ _ := ⟨F_moved, m_moved, F_moved.binds fun _ _ _ _ _ _ us hl => match us, hl with | [_, _, _], _ => rfl⟩
  obtain ⟨_, _, F_is_name, m_is_name⟩ := X.x_is_name
  have E_is_name : Fd K mg "is_name" sIsName ["text"] _ _ := ⟨F_is_name, m_is_name, F_is_name.binds fun _ _ _ _ _ _ us hl => match us, hl with | [_], _ => rfl⟩
  obtain ⟨_, _, F_step_count, m_step_count⟩ := X.x_step_count
  have E_step_count : Fd K mg "step_count" sStepCount ["question"] _ _ := ⟨F_step_count, m_step_count, F_step_count.binds fun _ _ _ _ _ _ us hl => match us, hl with | [_], _ => rfl⟩
  obtain ⟨_, _, F_has_form, m_has_form⟩ := X.x_has_form
  have E_has_form : Fd K mg "has_form" sHasForm ["question", "depth"] _ _ := ⟨F_has_form, m_has_form, F_has_form.binds fun _ _ _ _ _ _ us hl => match us, hl with | [_, _], _ => rfl⟩
  obtain ⟨_, _, F_is_proper, m_is_proper⟩ := X.x_is_proper
  have E_is_proper : Fd K mg "is_proper" sIsProper ["question"] _ _ := ⟨F_is_proper, m_is_proper, F_is_proper.binds fun _ _ _ _ _ _ us hl => match us, hl with | [_], _ => rfl⟩
  obtain ⟨_, _, F_check, m_check⟩ := X.x_check
  have E_check : Fd K mg "check" sCheck ["questions"] _ _ := ⟨F_check, m_check, F_check.binds fun _ _ _ _ _ _ us hl => match us, hl with | [_], _ => rfl⟩
  obtain ⟨_, _, F_takes, m_takes⟩ := X.x_takes
  have E_takes : Fd K mg "takes" sTakes ["question", "chain"] _ _ := ⟨F_takes, m_takes, F_takes.binds fun _ _ _ _ _ _ us hl => match us, hl with | [_, _], _ => rfl⟩
  obtain ⟨_, _, F_other_name, m_other_name⟩ := X.x_other_name
  have E_other_name : Fd K mg "other_name" sOtherName ["known"] _ _ := ⟨F_other_name, m_other_name, F_other_name.binds fun _ _ _ _ _ _ us hl => match us, hl with | [_], _ => rfl⟩
  obtain ⟨_, _, F_members, m_members⟩ := X.x_members
  have E_members : Fd K mg "members" sMembers ["first", "second"] _ _ := ⟨F_members, m_members, F_members.binds fun _ _ _ _ _ _ us hl => match us, hl with | [_, _], _ => rfl⟩
  obtain ⟨_, _, F_are_places, m_are_places⟩ := X.x_are_places
  have E_are_places : Fd K mg "are_places" sArePlaces ["question", "places"] _ _ := ⟨F_are_places, m_are_places, F_are_places.binds fun _ _ _ _ _ _ us hl => match us, hl with | [_, _], _ => rfl⟩
  obtain ⟨_, _, F_compare, m_compare⟩ := X.x_compare
  have E_compare : Fd K mg "compare" sCompare ["first", "second"] _ _ := ⟨F_compare, m_compare, F_compare.binds fun _ _ _ _ _ _ us hl => match us, hl with | [_, _], _ => rfl⟩
  obtain ⟨_, _, F_compare_within, m_compare_within⟩ := X.x_compare_within
  have E_compare_within : Fd K mg "compare_within" sCompareWithin ["first", "second"] _ _ := ⟨F_compare_within, m_compare_within, F_compare_within.binds fun _ _ _ _ _ _ us hl => match us, hl with | [_, _], _ => rfl⟩
  obtain ⟨_, _, F__law_mix, m__law_mix⟩ := X.x__law_mix
  have E__law_mix : Fd K mg "_law_mix" sLawMix ["_law_number", "_law_k"] _ _ := ⟨F__law_mix, m__law_mix, F__law_mix.binds fun _ _ _ _ _ _ us hl => match us, hl with | [_, _], _ => rfl⟩
  obtain ⟨_, _, F__law_numbers, m__law_numbers⟩ := X.x__law_numbers
  have E__law_numbers : Fd K mg "_law_numbers" sLawNumbers ["_law_script", "_law_count"] _ _ := ⟨F__law_numbers, m__law_numbers, F__law_numbers.binds fun _ _ _ _ _ _ us hl => match us, hl with | [_, _], _ => rfl⟩
  obtain ⟨_, _, F__law_take, m__law_take⟩ := X.x__law_take
  have E__law_take : Fd K mg "_law_take" sLawTake ["_law_row", "_law_bound"] _ _ := ⟨F__law_take, m__law_take, F__law_take.binds fun _ _ _ _ _ _ us hl => match us, hl with | [_, _], _ => rfl⟩
  obtain ⟨_, _, F__law_steps, m__law_steps⟩ := X.x__law_steps
  have E__law_steps : Fd K mg "_law_steps" sLawSteps ["_law_row"] _ _ := ⟨F__law_steps, m__law_steps, F__law_steps.binds fun _ _ _ _ _ _ us hl => match us, hl with | [_], _ => rfl⟩
  obtain ⟨_, _, F__law_next, m__law_next⟩ := X.x__law_next
  have E__law_next : Fd K mg "_law_next" sLawNext ["_law_question", "_law_places", "_law_member"] _ _ := ⟨F__law_next, m__law_next, F__law_next.binds fun _ _ _ _ _ _ us hl => match us, hl with | [_, _, _], _ => rfl⟩
  obtain ⟨_, _, F__law_takes, m__law_takes⟩ := X.x__law_takes
  have E__law_takes : Fd K mg "_law_takes" sLawTakes ["_law_question", "_law_chain"] _ _ := ⟨F__law_takes, m__law_takes, F__law_takes.binds fun _ _ _ _ _ _ us hl => match us, hl with | [_, _], _ => rfl⟩
  obtain ⟨_, _, F__law_members, m__law_members⟩ := X.x__law_members
  have E__law_members : Fd K mg "_law_members" sLawMembers ["_law_first", "_law_second"] _ _ := ⟨F__law_members, m__law_members, F__law_members.binds fun _ _ _ _ _ _ us hl => match us, hl with | [_, _], _ => rfl⟩
  obtain ⟨_, _, F__law_agree, m__law_agree⟩ := X.x__law_agree
  have E__law_agree : Fd K mg "_law_agree" sLawAgree ["_law_first", "_law_second", "_law_within", "_law_pair"] _ _ := ⟨F__law_agree, m__law_agree, F__law_agree.binds fun _ _ _ _ _ _ us hl => match us, hl with | [_, _, _, _], _ => rfl⟩
  obtain ⟨_, _, F__law_parts, m__law_parts⟩ := X.x__law_parts
  have E__law_parts : Fd K mg "_law_parts" sLawParts ["_law_first", "_law_second", "_law_within", "_law_chain"] _ _ := ⟨F__law_parts, m__law_parts, F__law_parts.binds fun _ _ _ _ _ _ us hl => match us, hl with | [_, _, _, _], _ => rfl⟩
  obtain ⟨_, _, F__law_due, m__law_due⟩ := X.x__law_due
  have E__law_due : Fd K mg "_law_due" sLawDue ["_law_first", "_law_second", "_law_pair"] _ _ := ⟨F__law_due, m__law_due, F__law_due.binds fun _ _ _ _ _ _ us hl => match us, hl with | [_, _, _], _ => rfl⟩
  obtain ⟨_, _, F__law_begun, m__law_begun⟩ := X.x__law_begun
  have E__law_begun : Fd K mg "_law_begun" sLawBegun ["_law_first", "_law_second"] _ _ := ⟨F__law_begun, m__law_begun, F__law_begun.binds fun _ _ _ _ _ _ us hl => match us, hl with | [_, _], _ => rfl⟩
  obtain ⟨_, _, F__law_search, m__law_search⟩ := X.x__law_search
  have E__law_search : Fd K mg "_law_search" sLawSearch ["_law_first", "_law_second", "_law_within"] _ _ := ⟨F__law_search, m__law_search, F__law_search.binds fun _ _ _ _ _ _ us hl => match us, hl with | [_, _, _], _ => rfl⟩
  obtain ⟨_, _, F__law_near, m__law_near⟩ := X.x__law_near
  have E__law_near : Fd K mg "_law_near" sLawNear ["_law_row", "_law_question"] _ _ := ⟨F__law_near, m__law_near, F__law_near.binds fun _ _ _ _ _ _ us hl => match us, hl with | [_, _], _ => rfl⟩
  obtain ⟨_, _, F__law_all_chains, m__law_all_chains⟩ := X.x__law_all_chains
  have E__law_all_chains : Fd K mg "_law_all_chains" sLawAllChains ["_law_known"] _ _ := ⟨F__law_all_chains, m__law_all_chains, F__law_all_chains.binds fun _ _ _ _ _ _ us hl => match us, hl with | [_], _ => rfl⟩
  obtain ⟨_, _, F___init__, m___init__⟩ := Y.x___init__
  have E___init__ : Fm K C "__init__" "Comparison.__init__" sComparisonInit ["self", "first", "second", "within"] _ _ := ⟨F___init__, m___init__, F___init__.binds fun _ _ _ _ _ _ us hl => match us, hl with | [_, _, _, _], _ => rfl⟩
  obtain ⟨_, _, F_agrees, m_agrees⟩ := Y.x_agrees
  have E_agrees : Fm K C "agrees" "Comparison.agrees" sComparisonAgrees ["self", "pair"] _ _ := ⟨F_agrees, m_agrees, F_agrees.binds fun _ _ _ _ _ _ us hl => match us, hl with | [_, _], _ => rfl⟩
  obtain ⟨_, _, F_after, m_after⟩ := Y.x_after
  have E_after : Fm K C "after" "Comparison.after" sComparisonAfter ["self", "pair", "member"] _ _ := ⟨F_after, m_after, F_after.binds fun _ _ _ _ _ _ us hl => match us, hl with | [_, _, _], _ => rfl⟩
  obtain ⟨_, _, F_is_proper_pair, m_is_proper_pair⟩ := Y.x_is_proper_pair
  have E_is_proper_pair : Fm K C "is_proper_pair" "Comparison.is_proper_pair" sComparisonIsProperPair ["self", "pair"] _ _ := ⟨F_is_proper_pair, m_is_proper_pair, F_is_proper_pair.binds fun _ _ _ _ _ _ us hl => match us, hl with | [_, _], _ => rfl⟩
  obtain ⟨_, _, F_begun, m_begun⟩ := Y.x_begun
  have E_begun : Fm K C "begun" "Comparison.begun" sComparisonBegun ["self"] _ _ := ⟨F_begun, m_begun, F_begun.binds fun _ _ _ _ _ _ us hl => match us, hl with | [_], _ => rfl⟩
  obtain ⟨_, _, F_going_on, m_going_on⟩ := Y.x_going_on
  have E_going_on : Fm K C "going_on" "Comparison.going_on" sComparisonGoingOn ["self", "pair"] _ _ := ⟨F_going_on, m_going_on, F_going_on.binds fun _ _ _ _ _ _ us hl => match us, hl with | [_, _], _ => rfl⟩
  obtain ⟨_, _, F_accepts, m_accepts⟩ := Y.x_accepts
  have E_accepts : Fm K C "accepts" "Comparison.accepts" sComparisonAccepts ["self", "paper"] _ _ := ⟨F_accepts, m_accepts, F_accepts.binds fun _ _ _ _ _ _ us hl => match us, hl with | [_, _], _ => rfl⟩
  obtain ⟨_, _, F_search, m_search⟩ := Y.x_search
  have E_search : Fm K C "search" "Comparison.search" sComparisonSearch ["self"] _ _ := ⟨F_search, m_search, F_search.binds fun _ _ _ _ _ _ us hl => match us, hl with | [_], _ => rfl⟩
  have D_passes := ok_passes (P := P) (w := w) (base := base) E_passes T
  have D_moved := ok_moved (P := P) (w := w) (base := base) E_moved T D_passes
  have D_is_name := ok_is_name (P := P) (w := w) (base := base) E_is_name T
  have D_step_count := ok_step_count (P := P) (w := w) (base := base) E_step_count T
  have D_has_form := ok_has_form (P := P) (w := w) (base := base) E_has_form T D_is_name
  have D_is_proper := ok_is_proper (P := P) (w := w) (base := base) E_is_proper T D_has_form D_step_count
  have D_check := ok_check (P := P) (w := w) (base := base) E_check T D_is_proper
  have D_takes := ok_takes (P := P) (w := w) (base := base) E_takes T D_check D_moved
  have D_other_name := ok_other_name (P := P) (w := w) (base := base) E_other_name T
  have D_members := ok_members (P := P) (w := w) (base := base) E_members T D_check D_other_name
  have D_are_places := ok_are_places (P := P) (w := w) (base := base) E_are_places T
  have M_after := ok_after (P := P) (w := w) (base := base) E_after cL T D_moved
  have M_agrees := ok_agrees (P := P) (w := w) (base := base) E_agrees cL T
  have M_is_proper_pair := ok_proper_pair (P := P) (w := w) (base := base) E_is_proper_pair cL T D_are_places
  have M_begun := ok_begun (P := P) (w := w) (base := base) E_begun cL T M_after
  have M_going_on := ok_going_on (P := P) (w := w) (base := base) E_going_on cL T M_after
  have M_accepts := ok_accepts (P := P) (w := w) (base := base) E_accepts cL T M_is_proper_pair M_begun M_going_on M_agrees
  have M_search := ok_search (P := P) (w := w) (base := base) E_search cL T M_begun M_going_on M_agrees
  have D_make := ok_init (P := P) (w := w) (base := base) E___init__ cL ⟨Y.mkC, m___init__.at_, m___init__.fn, Y.kc⟩ Y.mC T D_members
  have D_compare := ok_compare (P := P) (w := w) (base := base) E_compare cL T D_make M_search
  have D_compare_within := ok_compare_within (P := P) (w := w) (base := base) E_compare_within cL T D_make M_search
  have D__law_mix := ok_law_mix (P := P) (w := w) (base := base) E__law_mix T
  have D__law_numbers := ok_law_numbers (P := P) (w := w) (base := base) E__law_numbers T D__law_mix
  have D__law_take := ok_law_take (P := P) (w := w) (base := base) E__law_take T
  have D__law_steps := ok_law_steps (P := P) (w := w) (base := base) E__law_steps T D__law_take
  have D__law_near := ok_law_near (P := P) (w := w) (base := base) E__law_near T D__law_take
  have D__law_next := ok_law_next (P := P) (w := w) (base := base) E__law_next T
  have D__law_takes := ok_law_takes (P := P) (w := w) (base := base) E__law_takes T D__law_next
  have D__law_members := ok_law_members (P := P) (w := w) (base := base) E__law_members T
  have D__law_agree := ok_law_agree (P := P) (w := w) (base := base) E__law_agree T
  have D__law_parts := ok_law_parts (P := P) (w := w) (base := base) E__law_parts T D__law_takes
  have D__law_due := ok_law_due (P := P) (w := w) (base := base) E__law_due T D__law_members D__law_next
  have D__law_begun := ok_law_begun (P := P) (w := w) (base := base) E__law_begun T D__law_due
  have D__law_search := ok_law_search (P := P) (w := w) (base := base) E__law_search T D__law_due D__law_begun D__law_agree
  have D__law_all_chains := ok_law_all (P := P) (w := w) (base := base) E__law_all_chains T
  obtain ⟨_, _, F_accepts_paper, m_accepts_paper⟩ := X.x_accepts_paper
  obtain ⟨_, b_accepts_paper⟩ := kb_accepts F_accepts_paper
  have D_accepts_paper := ok_accepts_paper (P := P) (w := w) (base := base) F_accepts_paper m_accepts_paper b_accepts_paper cL T D_make M_accepts
  have E : Fd K mg "law" sLaw ["_law_script"] f fd := ⟨F, m, F.binds fun _ _ _ _ _ _ us hl => match us, hl with | [_], _ => rfl⟩
  exact ok_law E T D__law_numbers D__law_steps D__law_near D__law_take D_compare D_compare_within D__law_search D_accepts_paper D__law_parts D__law_all_chains D__law_members D_takes D__law_takes
theorem all_mk {l : PySem.W.OpenLaw} {h : Heap} {fa : Addr} (_ : K.In h) (hfa : mg "law" = some (.ref fa)) (X : Txt K mg) : ∃ fd : FuncData, (∀ (s : Shared) (v : Value), BindsTo s fd ⟨[v], []⟩ [("_law_script", v)]) ∧ ∀ base : Heap, K.In base → base.Ns mainGlobals mg → FnOk l.prog w K mg base CX0 9 fa fd ["_law_script"] (spLaw K) := by
  obtain ⟨f, fd, F, m⟩ := X.x_law
  have e := hfa.symm.trans m
  cases e
  exact ⟨fd, law_binds F, fun base _ _ => all_ok X F m⟩
theorem txc_mk {h : Heap} {C : Addr} (X : K.In h) (G : h.Ns mainGlobals mg) (aC : PySem.W.nsIn K mainGlobals "Comparison" = some (some (.ref C))) (pg : PySem.W.plainGet K C Str.empty = true) (hd : PySem.W.hasDictIn K C = true) (po : PySem.W.plainOver K C = true) (sa : PySem.W.findIn K (.ref C) "__setattr__" = some (some (.builtin "object.__setattr__"))) (mk : PySem.W.makesIn K C = true) (kc : PySem.W.keepIn K (.ref C) = true)
    (n1 : PySem.W.findIn K (.ref C) "known" = some none) (n2 : PySem.W.findIn K (.ref C) "first" = some none) (n3 : PySem.W.findIn K (.ref C) "second" = some none) (n4 : PySem.W.findIn K (.ref C) "within" = some none)
    (m1 : HasM K C "__init__" "Comparison.__init__" sComparisonInit) (m2 : HasM K C "agrees" "Comparison.agrees" sComparisonAgrees) (m3 : HasM K C "after" "Comparison.after" sComparisonAfter) (m4 : HasM K C "is_proper_pair" "Comparison.is_proper_pair" sComparisonIsProperPair) (m5 : HasM K C "begun" "Comparison.begun" sComparisonBegun) (m6 : HasM K C "going_on" "Comparison.going_on" sComparisonGoingOn) (m7 : HasM K C "accepts" "Comparison.accepts" sComparisonAccepts) (m8 : HasM K C "search" "Comparison.search" sComparisonSearch) : ∃ C, Txc K mg C :=
  ⟨C, ⟨⟨pg, hd, po, sa⟩, n1, n2, n3, n4⟩, PySem.W.mg_of X G aC, mk, kc, m1, m2, m3, m4, m5, m6, m7, m8⟩
theorem tx_mk {h : Heap} {t1 t2 t3 t4 : Tok} (X : K.In h) (G : h.Ns mainGlobals mg) (z1 : PySem.W.nsIn K mainGlobals "len" = some none) (z2 : PySem.W.nsIn K mainGlobals "all" = some none) (z3 : PySem.W.nsIn K mainGlobals "any" = some none) (z4 : PySem.W.nsIn K mainGlobals "sorted" = some none) (z5 : PySem.W.nsIn K mainGlobals "int" = some none) (z6 : PySem.W.nsIn K mainGlobals "list" = some none) (z7 : PySem.W.nsIn K mainGlobals "range" = some none) (z8 : PySem.W.nsIn K mainGlobals "enumerate" = some none) (z9 : PySem.W.nsIn K mainGlobals "set" = some none) (c1 : PySem.W.nsIn K mainGlobals "TEXT" = some (some (.str "#" t1))) (c2 : PySem.W.nsIn K mainGlobals "LETTERS" = some (some (.str "abcdefghijklmnopqrstuvwxyz" t2))) (c3 : PySem.W.nsIn K mainGlobals "MOST_STEPS" = some (some (.int 12 t3))) (c4 : PySem.W.nsIn K mainGlobals "MOST_DEPTH" = some (some (.int 3 t4))) : Tx mg :=
  ⟨PySem.W.mg_none_of X G z1, PySem.W.mg_none_of X G z2, PySem.W.mg_none_of X G z3, PySem.W.mg_none_of X G z4, PySem.W.mg_none_of X G z5, PySem.W.mg_none_of X G z6, PySem.W.mg_none_of X G z7, PySem.W.mg_none_of X G z8, PySem.W.mg_none_of X G z9, ⟨t1, PySem.W.mg_of X G c1⟩, ⟨t2, PySem.W.mg_of X G c2⟩, ⟨t3, PySem.W.mg_of X G c3⟩, ⟨t4, PySem.W.mg_of X G c4⟩⟩
theorem walk {l : PySem.W.OpenLaw} {q : Program} {loose : List Str} {XP : (Str → Option Value) → Heap → Prop} {YP : World → Heap → Prop} {d : DefRec} {K : Params → PySem.W.Frag} (hn : l.most = some 63) (hdf : d.params.defaults = [])
    (hY : ∀ (w : World) (h : Heap), YP w h → (K w.params).In h)
    (F : ∀ (w : World) (mg : Str → Option Value) (fa : Addr) (h : Heap), (K w.params).In h → h.Ns mainGlobals mg → mg d.name = some (.ref fa) →
      ∃ fd : FuncData, (∀ (s : Shared) (u : Value), BindsTo s fd ⟨[u], []⟩ [("_law_script", u)]) ∧ ∀ base : Heap, (K w.params).In base → base.Ns mainGlobals mg → FnOk l.prog w (K w.params) mg base CX0 9 fa fd ["_law_script"] (spLaw (K w.params))) :
    PySem.W.WalkO q loose XP YP l.row.toRowW d [] (fun f vs => PySem.call f vs) :=
  walk_of (n := 63) (k := 9) (x := "_law_script") (CX := fun _ => CX0) (sp := fun w => spLaw (K w.params)) hn (by decide) hdf ⟨rfl, by decide, by decide⟩ hY F (fun _ _ a ns hl _ hS => ⟨a, ns, rfl, hl, hS, fun _ => rfl⟩) fun _ _ _ _ _ z => z
end
end T45
open PySem PySem.W PyProof.Rows in
set_option maxRecDepth 100000 in
set_option maxHeartbeats 0 in
theorem PySem.Challenge.cw_topiary_k45_whole_alike_or_a_chain_apart_holds : PySem.Challenge.rw_topiary_k45_whole_alike_or_a_chain_apart.Holds := by
  w_on; o_law; k_head; (case hw => w_witness2)
  k_fill
  refine T45.walk (l := PySem.Challenge.rw_topiary_k45_whole_alike_or_a_chain_apart) rfl rfl (fun w h Y => PySem.W.kIn_of Y) ?F
  case F =>
    intro w mg fa h KX G hmg
    refine' T45.all_mk KX hmg ⟨T45.tx_mk KX G ?z1 ?z2 ?z3 ?z4 ?z5 ?z6 ?z7 ?z8 ?z9 ?cc1 ?cc2 ?cc3 ?cc4, T45.txc_mk KX G ?aC ?pg ?hd ?po ?sa ?mk ?kc ?n1 ?n2 ?n3 ?n4 (T45.hasM_mk ?ma_1 ?mi_1 ?ml_1 ?mc_1 ?mk_1) (T45.hasM_mk ?ma_2 ?mi_2 ?ml_2 ?mc_2 ?mk_2) (T45.hasM_mk ?ma_3 ?mi_3 ?ml_3 ?mc_3 ?mk_3) (T45.hasM_mk ?ma_4 ?mi_4 ?ml_4 ?mc_4 ?mk_4) (T45.hasM_mk ?ma_5 ?mi_5 ?ml_5 ?mc_5 ?mk_5) (T45.hasM_mk ?ma_6 ?mi_6 ?ml_6 ?mc_6 ?mk_6) (T45.hasM_mk ?ma_7 ?mi_7 ?ml_7 ?mc_7 ?mk_7) (T45.hasM_mk ?ma_8 ?mi_8 ?ml_8 ?mc_8 ?mk_8),
      T45.has_mk KX G ?fa_1 ?fl_1 ?fc_1 ?fk_1,
      T45.has_mk KX G ?fa_2 ?fl_2 ?fc_2 ?fk_2,
      T45.has_mk KX G ?fa_3 ?fl_3 ?fc_3 ?fk_3,
      T45.has_mk KX G ?fa_4 ?fl_4 ?fc_4 ?fk_4,
      T45.has_mk KX G ?fa_5 ?fl_5 ?fc_5 ?fk_5,
      T45.has_mk KX G ?fa_6 ?fl_6 ?fc_6 ?fk_6,
      T45.has_mk KX G ?fa_7 ?fl_7 ?fc_7 ?fk_7,
      T45.has_mk KX G ?fa_8 ?fl_8 ?fc_8 ?fk_8,
      T45.has_mk KX G ?fa_9 ?fl_9 ?fc_9 ?fk_9,
      T45.has_mk KX G ?fa_10 ?fl_10 ?fc_10 ?fk_10,
      T45.has_mk KX G ?fa_11 ?fl_11 ?fc_11 ?fk_11,
      T45.has_mk KX G ?fa_12 ?fl_12 ?fc_12 ?fk_12,
      T45.has_mk KX G ?fa_13 ?fl_13 ?fc_13 ?fk_13,
      T45.has_mk KX G ?fa_14 ?fl_14 ?fc_14 ?fk_14,
      T45.has_mk KX G ?fa_15 ?fl_15 ?fc_15 ?fk_15,
      T45.has_mk KX G ?fa_16 ?fl_16 ?fc_16 ?fk_16,
      T45.has_mk KX G ?fa_17 ?fl_17 ?fc_17 ?fk_17,
      T45.has_mk KX G ?fa_18 ?fl_18 ?fc_18 ?fk_18,
      T45.has_mk KX G ?fa_19 ?fl_19 ?fc_19 ?fk_19,
      T45.has_mk KX G ?fa_20 ?fl_20 ?fc_20 ?fk_20,
      T45.has_mk KX G ?fa_21 ?fl_21 ?fc_21 ?fk_21,
      T45.has_mk KX G ?fa_22 ?fl_22 ?fc_22 ?fk_22,
      T45.has_mk KX G ?fa_23 ?fl_23 ?fc_23 ?fk_23,
      T45.has_mk KX G ?fa_24 ?fl_24 ?fc_24 ?fk_24,
      T45.has_mk KX G ?fa_25 ?fl_25 ?fc_25 ?fk_25,
      T45.has_mk KX G ?fa_26 ?fl_26 ?fc_26 ?fk_26,
      T45.has_mk KX G ?fa_27 ?fl_27 ?fc_27 ?fk_27,
      T45.has_mk KX G ?fa_28 ?fl_28 ?fc_28 ?fk_28,
      T45.hasD_mk KX G ?da ?dl ?dc ?dk ?dt ?de ?dr ?dn⟩
    (case z1 => k_is)
    (case z2 => k_is)
    (case z3 => k_is)
    (case z4 => k_is)
    (case z5 => k_is)
    (case z6 => k_is)
    (case z7 => k_is)
    (case z8 => k_is)
    (case z9 => k_is)
    (case cc1 => k_is)
    (case cc2 => k_is)
    (case cc3 => k_is)
    (case cc4 => k_is)
    (case aC => k_is)
    (case pg => k_is)
    (case hd => k_is)
    (case po => k_is)
    (case sa => k_is)
    (case mk => k_is)
    (case kc => k_is)
    (case n1 => k_is)
    (case n2 => k_is)
    (case n3 => k_is)
    (case n4 => k_is)
    (case ma_1 => k_is)
    (case mi_1 => k_is)
    (case ml_1 => k_is)
    (case mc_1 => k_is)
    (case mk_1 => k_is)
    (case ma_2 => k_is)
    (case mi_2 => k_is)
    (case ml_2 => k_is)
    (case mc_2 => k_is)
    (case mk_2 => k_is)
    (case ma_3 => k_is)
    (case mi_3 => k_is)
    (case ml_3 => k_is)
    (case mc_3 => k_is)
    (case mk_3 => k_is)
    (case ma_4 => k_is)
    (case mi_4 => k_is)
    (case ml_4 => k_is)
    (case mc_4 => k_is)
    (case mk_4 => k_is)
    (case ma_5 => k_is)
    (case mi_5 => k_is)
    (case ml_5 => k_is)
    (case mc_5 => k_is)
    (case mk_5 => k_is)
    (case ma_6 => k_is)
    (case mi_6 => k_is)
    (case ml_6 => k_is)
    (case mc_6 => k_is)
    (case mk_6 => k_is)
    (case ma_7 => k_is)
    (case mi_7 => k_is)
    (case ml_7 => k_is)
    (case mc_7 => k_is)
    (case mk_7 => k_is)
    (case ma_8 => k_is)
    (case mi_8 => k_is)
    (case ml_8 => k_is)
    (case mc_8 => k_is)
    (case mk_8 => k_is)
    (case fa_1 => k_is)
    (case fl_1 => k_is)
    (case fc_1 => k_is)
    (case fk_1 => k_is)
    (case fa_2 => k_is)
    (case fl_2 => k_is)
    (case fc_2 => k_is)
    (case fk_2 => k_is)
    (case fa_3 => k_is)
    (case fl_3 => k_is)
    (case fc_3 => k_is)
    (case fk_3 => k_is)
    (case fa_4 => k_is)
    (case fl_4 => k_is)
    (case fc_4 => k_is)
    (case fk_4 => k_is)
    (case fa_5 => k_is)
    (case fl_5 => k_is)
    (case fc_5 => k_is)
    (case fk_5 => k_is)
    (case fa_6 => k_is)
    (case fl_6 => k_is)
    (case fc_6 => k_is)
    (case fk_6 => k_is)
    (case fa_7 => k_is)
    (case fl_7 => k_is)
    (case fc_7 => k_is)
    (case fk_7 => k_is)
    (case fa_8 => k_is)
    (case fl_8 => k_is)
    (case fc_8 => k_is)
    (case fk_8 => k_is)
    (case fa_9 => k_is)
    (case fl_9 => k_is)
    (case fc_9 => k_is)
    (case fk_9 => k_is)
    (case fa_10 => k_is)
    (case fl_10 => k_is)
    (case fc_10 => k_is)
    (case fk_10 => k_is)
    (case fa_11 => k_is)
    (case fl_11 => k_is)
    (case fc_11 => k_is)
    (case fk_11 => k_is)
    (case fa_12 => k_is)
    (case fl_12 => k_is)
    (case fc_12 => k_is)
    (case fk_12 => k_is)
    (case fa_13 => k_is)
    (case fl_13 => k_is)
    (case fc_13 => k_is)
    (case fk_13 => k_is)
    (case fa_14 => k_is)
    (case fl_14 => k_is)
    (case fc_14 => k_is)
    (case fk_14 => k_is)
    (case fa_15 => k_is)
    (case fl_15 => k_is)
    (case fc_15 => k_is)
    (case fk_15 => k_is)
    (case fa_16 => k_is)
    (case fl_16 => k_is)
    (case fc_16 => k_is)
    (case fk_16 => k_is)
    (case fa_17 => k_is)
    (case fl_17 => k_is)
    (case fc_17 => k_is)
    (case fk_17 => k_is)
    (case fa_18 => k_is)
    (case fl_18 => k_is)
    (case fc_18 => k_is)
    (case fk_18 => k_is)
    (case fa_19 => k_is)
    (case fl_19 => k_is)
    (case fc_19 => k_is)
    (case fk_19 => k_is)
    (case fa_20 => k_is)
    (case fl_20 => k_is)
    (case fc_20 => k_is)
    (case fk_20 => k_is)
    (case fa_21 => k_is)
    (case fl_21 => k_is)
    (case fc_21 => k_is)
    (case fk_21 => k_is)
    (case fa_22 => k_is)
    (case fl_22 => k_is)
    (case fc_22 => k_is)
    (case fk_22 => k_is)
    (case fa_23 => k_is)
    (case fl_23 => k_is)
    (case fc_23 => k_is)
    (case fk_23 => k_is)
    (case fa_24 => k_is)
    (case fl_24 => k_is)
    (case fc_24 => k_is)
    (case fk_24 => k_is)
    (case fa_25 => k_is)
    (case fl_25 => k_is)
    (case fc_25 => k_is)
    (case fk_25 => k_is)
    (case fa_26 => k_is)
    (case fl_26 => k_is)
    (case fc_26 => k_is)
    (case fk_26 => k_is)
    (case fa_27 => k_is)
    (case fl_27 => k_is)
    (case fc_27 => k_is)
    (case fk_27 => k_is)
    (case fa_28 => k_is)
    (case fl_28 => k_is)
    (case fc_28 => k_is)
    (case fk_28 => k_is)
    (case da => k_is)
    (case dl => k_is)
    (case dc => k_is)
    (case dk => k_is)
    (case dt => k_is)
    (case de => exact rfl)
    (case dr => exact .cons rfl .nil)
    (case dn => simp)
#print axioms PySem.Challenge.cw_topiary_k45_whole_alike_or_a_chain_apart_holds
