import PyProof.Rows.All
import Wide.All
import OpenK.AllK
import Wide.FinOn
import HandS.ForMost
import HandS.ForExc
import HandS.Evl
import HandS.SortInts
import HandS.SetFor
import HandS.Strs
import HandS.Style
import HandS.Flow
import HandS.IsInst
import HandS.ExcValue
import HandS.ExcIs
import HandS.Defaults
import HandS.Deep
import HandS.FStr
import HandS.Zip
import HandS.TupSets
import HandS.HeadHook1
import HandS.HeadHook2
import HandS.HeadEnd
import HandS.Head0
import HandS.Head1
import HandS.Head2
import KE.SortData
import HandS.SortRule
import HandS.Text
import PySem.Challenge.RW_wheelcurves_k05_whole_cover
set_option Elab.async false
set_option linter.all false
set_option maxRecDepth 100000
set_option maxHeartbeats 4000000
/-! A calculus over plain data (PyData): what an expression's reading gives, whatever is added to the heap. -/
namespace Wc
open PySem PySem.Spec PyProof.Rows L2
abbrev Fg := PySem.W.Frag
abbrev Ex (H H' : Hp) : Prop := Evl.Ex H H'
abbrev Dt := PyData
theorem ex_rfl {H : Hp} : Ex H H := Evl.Ex.refl H
section
variable {K : Fg} {H H' : Hp}
mutual
theorem dp_ex (e : Ex H H') : ∀ {d : Dt} {v : V}, Dp K H v d → Dp K H' v d
  | .none, _, h => by cases h; exact .non
  | .bool _, _, h => by cases h; exact .bl _
  | .int _, _, h => by cases h; exact .int _
  | .str _, _, h => by cases h; exact .str _
  | .list _, _, h => by
    cases h with
    | lst a b => exact .lst (Evl.ex_l e a) (dps_ex e b)
  | .tuple _, _, h => by
    cases h with
    | tup a b => exact .tup (Evl.ex_t e a) (dps_ex e b)
  | .dict _, _, h => by cases h
theorem dps_ex (e : Ex H H') : ∀ {ds : List Dt} {vs : List V}, DpAll K H vs ds → DpAll K H' vs ds
  | [], _, h => by cases h; exact .nil
  | _ :: _, _, h => by
    cases h with
    | cons a b => exact .cons (dp_ex e a) (dps_ex e b)
end
theorem dp_int {v : V} {i : Int} (h : Dp K H v (.int i)) : v = .int i := by cases h; rfl
theorem dp_str {v : V} {x : Str} (h : Dp K H v (.str x)) : v = .str x := by cases h; rfl
theorem dp_bl {v : V} {b : Bool} (h : Dp K H v (.bool b)) : v = .bl b := by cases h; rfl
theorem dp_non {v : V} (h : Dp K H v .none) : v = .non := by cases h; rfl
theorem dp_lst {v : V} {ds : List Dt} (h : Dp K H v (.list ds)) : ∃ a xs, v = .ref a ∧ SqL K H a xs ∧ DpAll K H xs ds := by
  cases h with
  | lst a b => exact ⟨_, _, rfl, a, b⟩
theorem dp_tup {v : V} {ds : List Dt} (h : Dp K H v (.tuple ds)) : ∃ a xs, v = .ref a ∧ SqT K H a xs ∧ DpAll K H xs ds := by
  cases h with
  | tup a b => exact ⟨_, _, rfl, a, b⟩
theorem dps_len : ∀ {vs : List V} {ds : List Dt}, DpAll K H vs ds → vs.length = ds.length
  | _, _, .nil => rfl
  | _, _, .cons _ t => congrArg Nat.succ (dps_len t)
theorem dps_get : ∀ {vs : List V} {ds : List Dt} {i : Nat} {d : Dt}, DpAll K H vs ds → ds[i]? = some d → ∃ v, vs[i]? = some v ∧ Dp K H v d
  | _, _, _, _, .nil, e => by simp at e
  | _, _, 0, _, .cons a _, e => by
    have e' := Option.some.inj e
    subst e'
    exact ⟨_, rfl, a⟩
  | _, _, i + 1, _, .cons _ t, e => by
    obtain ⟨v, h1, h2⟩ := dps_get (i := i) t (by simpa using e)
    exact ⟨v, by simpa using h1, h2⟩
theorem dps_at : ∀ {vs : List V} {ds : List Dt} {i : Nat} {v : V}, DpAll K H vs ds → vs[i]? = some v → ∃ d, ds[i]? = some d ∧ Dp K H v d
  | _, _, _, _, .nil, e => by simp at e
  | _, _, 0, _, .cons a _, e => by
    have e' := Option.some.inj e
    subst e'
    exact ⟨_, rfl, a⟩
  | _, _, i + 1, _, .cons _ t, e => by
    obtain ⟨v, h1, h2⟩ := dps_at (i := i) t (by simpa using e)
    exact ⟨v, by simpa using h1, h2⟩
theorem dps_app : ∀ {xs ys : List V} {ds es : List Dt}, DpAll K H xs ds → DpAll K H ys es → DpAll K H (xs ++ ys) (ds ++ es)
  | _, _, _, _, .nil, s => s
  | _, _, _, _, .cons a t, s => .cons a (dps_app t s)
theorem dps_take : ∀ {xs : List V} {ds : List Dt} (n : Nat), DpAll K H xs ds → DpAll K H (xs.take n) (ds.take n)
  | _, _, 0, _ => .nil
  | _, _, _ + 1, .nil => .nil
  | _, _, n + 1, .cons a t => .cons a (dps_take n t)
theorem dps_drop : ∀ {xs : List V} {ds : List Dt} (n : Nat), DpAll K H xs ds → DpAll K H (xs.drop n) (ds.drop n)
  | _, _, 0, s => s
  | _, _, _ + 1, .nil => .nil
  | _, _, n + 1, .cons _ t => dps_drop n t
theorem dps_rev {xs : List V} {ds : List Dt} (h : DpAll K H xs ds) : DpAll K H xs.reverse ds.reverse := by
  induction xs generalizing ds with
  | nil => cases h; exact .nil
  | cons x r ih =>
    cases h with
    | cons a t =>
      rw [List.reverse_cons, List.reverse_cons]
      exact dps_app (ih t) (.cons a .nil)
theorem dps_ints : ∀ ns : List Int, DpAll K H (ns.map V.int) (ns.map .int)
  | [] => .nil
  | n :: r => .cons (.int n) (dps_ints r)
theorem dps_bls : ∀ ns : List Bool, DpAll K H (ns.map V.bl) (ns.map .bool)
  | [] => .nil
  | n :: r => .cons (.bl n) (dps_bls r)
theorem of_dps_ints : ∀ {ns : List Int} {vs : List V}, DpAll K H vs (ns.map .int) → vs = ns.map V.int
  | [], _, h => by cases h; rfl
  | n :: r, _, h => by
    cases h with
    | cons a t => cases a; exact congrArg _ (of_dps_ints t)
theorem of_dps_bls : ∀ {ns : List Bool} {vs : List V}, DpAll K H vs (ns.map .bool) → vs = ns.map V.bl
  | [], _, h => by cases h; rfl
  | n :: r, _, h => by
    cases h with
    | cons a t => cases a; exact congrArg _ (of_dps_bls t)
theorem dps_nil {vs : List V} (h : DpAll K H vs []) : vs = [] := by cases h; rfl
theorem dps_cons {vs : List V} {d : Dt} {ds : List Dt} (h : DpAll K H vs (d :: ds)) : ∃ v r, vs = v :: r ∧ Dp K H v d ∧ DpAll K H r ds := by
  cases h with
  | cons a b => exact ⟨_, _, rfl, a, b⟩
/-! no list within: such a datum stays when a list changes -/
mutual
def noLst : Dt → Bool
  | .list _ => false
  | .tuple ds => noLsts ds
  | _ => true
def noLsts : List Dt → Bool
  | [] => true
  | d :: ds => noLst d && noLsts ds
end
/-- all but lists stays -/
def Lx (H H' : Hp) : Prop := ∀ a o, H a = some o → (∀ xs, o ≠ .lst xs) → H' a = some o
theorem Lx.rfl' : Lx H H := fun _ _ h _ => h
theorem Lx.of_ex (e : Ex H H') : Lx H H' := fun a o h _ => e a o h
theorem Lx.trans {H1 : Hp} (a : Lx H H1) (b : Lx H1 H') : Lx H H' := fun x o h n => b x o (a x o h n) n
theorem Lx.upd {p : Addr} {xs : List V} {o : HO} (h : H p = some (.lst xs)) : Lx H (upd H p o) := fun a u e n => by
  by_cases q : a = p
  · rw [q, h] at e
    exact absurd (Option.some.inj e).symm (n xs)
  · rw [upd_ne q]; exact e
theorem lx_t {a : Addr} {xs : List V} (e : Lx H H') (h : SqT K H a xs) : SqT K H' a xs := by
  rcases h with (h | ⟨o, h⟩) | h
  · exact .inl (.inl (e a _ h fun _ z => nomatch z))
  · exact .inl (.inr ⟨o, e a _ h fun _ z => nomatch z⟩)
  · exact .inr h
mutual
theorem dp_lx (e : Lx H H') : ∀ {d : Dt} {v : V}, noLst d = true → Dp K H v d → Dp K H' v d
  | .none, _, _, h => by cases h; exact .non
  | .bool _, _, _, h => by cases h; exact .bl _
  | .int _, _, _, h => by cases h; exact .int _
  | .str _, _, _, h => by cases h; exact .str _
  | .list _, _, n, _ => by rw [noLst] at n; cases n
  | .tuple _, _, n, h => by
    rw [noLst] at n
    cases h with
    | tup a b => exact .tup (lx_t e a) (dps_lx e n b)
  | .dict _, _, _, h => by cases h
theorem dps_lx (e : Lx H H') : ∀ {ds : List Dt} {vs : List V}, noLsts ds = true → DpAll K H vs ds → DpAll K H' vs ds
  | [], _, _, h => by cases h; exact .nil
  | _ :: _, _, n, h => by
    rw [noLsts, Bool.and_eq_true] at n
    cases h with
    | cons a b => exact .cons (dp_lx e n.1 a) (dps_lx e n.2 b)
end
theorem noLsts_all : ∀ {ds : List Dt}, (∀ d ∈ ds, noLst d = true) → noLsts ds = true
  | [], _ => by rw [noLsts]
  | d :: ds, h => by
    rw [noLsts, h d List.mem_cons_self, noLsts_all fun x hx => h x (List.mem_cons_of_mem _ hx)] <;> rfl
theorem noLsts_mem : ∀ {ds : List Dt}, noLsts ds = true → ∀ d ∈ ds, noLst d = true
  | [], _, _, h => by cases h
  | d :: ds, n, x, h => by
    rw [noLsts, Bool.and_eq_true] at n
    rcases List.mem_cons.mp h with e | e
    · rw [e]; exact n.1
    · exact noLsts_mem n.2 x e
theorem noLsts_ints (ns : List Int) : noLsts (ns.map .int) = true := noLsts_all fun d h => by
  obtain ⟨i, _, rfl⟩ := List.mem_map.mp h
  simp [noLst]
theorem noLsts_app {ds es : List Dt} (h : noLsts ds = true) (h2 : noLsts es = true) : noLsts (ds ++ es) = true := noLsts_all fun d hd => by
  rcases List.mem_append.mp hd with q | q
  · exact noLsts_mem h d q
  · exact noLsts_mem h2 d q
end

/-! ### what a reading yields -/
def Yd (K : Fg) (te : TE) (σ : L2.St) (H : Hp) (d : Dt) : Prop := ∀ H1, Ex H H1 → ∀ Q : VK, (∀ v H2, Ex H1 H2 → Dp K H2 v d → Q v H2) → te σ H1 Q
/-- a new list -/
def Yn (K : Fg) (te : TE) (σ : L2.St) (H : Hp) (ds : List Dt) : Prop := ∀ H1, Ex H H1 → ∀ Q : VK, (∀ p xs H2, H1 p = none → Ex H1 H2 → H2 p = some (.lst xs) → DpAll K H2 xs ds → Q (.ref p) H2) → te σ H1 Q
def Ya (K : Fg) (ta : TA) (σ : L2.St) (H : Hp) (ds : List Dt) : Prop := ∀ H1, Ex H H1 → ∀ Q : List V → Hp → Prop, (∀ vs H2, Ex H1 H2 → DpAll K H2 vs ds → Q vs H2) → ta σ H1 Q
abbrev Yt (t : TT) (σ : L2.St) (H : Hp) (b : Bool) : Prop := Evl.EvT t σ H b
/-- an optional part of a slice -/
def Yo (to : TO) (σ : L2.St) (H : Hp) (o : Option Int) : Prop := ∀ H1, Ex H H1 → ∀ Q : Option Int → Hp → Prop, (∀ H2, Ex H1 H2 → Q o H2) → to σ H1 Q
/-- two-place, one-place operations, calls, on data -/
def Rd2 (K : Fg) (r : R2) (d e z : Dt) : Prop := ∀ v u H (Q : VK), Dp K H v d → Dp K H u e → (∀ v' H2, Ex H H2 → Dp K H2 v' z → Q v' H2) → r v u H Q
def Rn2 (K : Fg) (r : R2) (d e : Dt) (zs : List Dt) : Prop := ∀ v u H (Q : VK), Dp K H v d → Dp K H u e → (∀ p xs H2, H p = none → Ex H H2 → H2 p = some (.lst xs) → DpAll K H2 xs zs → Q (.ref p) H2) → r v u H Q
def Rd1 (K : Fg) (r : V → Hp → VK → Prop) (d z : Dt) : Prop := ∀ v H (Q : VK), Dp K H v d → (∀ v' H2, Ex H H2 → Dp K H2 v' z → Q v' H2) → r v H Q
def RdC (K : Fg) (r : List V → Hp → VK → Prop) (ds : List Dt) (z : Dt) : Prop := ∀ vs H (Q : VK), DpAll K H vs ds → (∀ v' H2, Ex H H2 → Dp K H2 v' z → Q v' H2) → r vs H Q
def RnC (K : Fg) (r : List V → Hp → VK → Prop) (ds zs : List Dt) : Prop := ∀ vs H (Q : VK), DpAll K H vs ds → (∀ p xs H2, H p = none → Ex H H2 → H2 p = some (.lst xs) → DpAll K H2 xs zs → Q (.ref p) H2) → r vs H Q
section
variable {K : Fg} {σ : L2.St} {H H' : Hp} {ta tb tc te : TE} {t u : TT} {d e z : Dt} {ds zs : List Dt} {v : V} {r : R2}
theorem Yd.mono (x : Ex H H') (h : Yd K te σ H d) : Yd K te σ H' d := fun H1 a Q q => h H1 (x.trans a) Q q
theorem Yn.mono (x : Ex H H') (h : Yn K te σ H ds) : Yn K te σ H' ds := fun H1 a Q q => h H1 (x.trans a) Q q
theorem Ya.mono {t : TA} (x : Ex H H') (h : Ya K t σ H ds) : Ya K t σ H' ds := fun H1 a Q q => h H1 (x.trans a) Q q
theorem Yn.yd (h : Yn K te σ H ds) : Yd K te σ H (.list ds) := fun H1 x Q q => h H1 x Q fun p xs H2 _ e h2 hd => q _ H2 e (.lst (.inl (.inl h2)) hd)
theorem Yd.is (h : Yd K te σ H d) (x : d = e) : Yd K te σ H e := x ▸ h
theorem Yn.is (h : Yn K te σ H ds) (x : ds = zs) : Yn K te σ H zs := x ▸ h
theorem Ya.is {t : TA} (h : Ya K t σ H ds) (x : ds = zs) : Ya K t σ H zs := x ▸ h
theorem yt_is {b c : Bool} (h : Yt t σ H b) (x : b = c) : Yt t σ H c := x ▸ h
theorem yd_var {i : Nat} (h : σ[i]? = some (some v)) (hd : Dp K H v d) : Yd K (tVar i) σ H d := fun H1 x _ q => ⟨v, h, q v H1 ex_rfl (dp_ex x hd)⟩
theorem yd_c (h : ∀ H, Dp K H v d) : Yd K (tC v) σ H d := fun H1 _ _ q => q v H1 ex_rfl (h H1)
theorem yd_int {i : Int} : Yd K (tC (.int i)) σ H (.int i) := yd_c fun _ => .int i
theorem yd_str {x : Str} : Yd K (tC (.str x)) σ H (.str x) := yd_c fun _ => .str x
theorem yd_bl {b : Bool} : Yd K (tC (.bl b)) σ H (.bool b) := yd_c fun _ => .bl b
theorem yd_non : Yd K (tC .non) σ H .none := yd_c fun _ => .non
theorem yd_op (ha : Yd K ta σ H d) (hb : Yd K tb σ H e) (hr : Rd2 K r d e z) : Yd K (tOp r ta tb) σ H z := fun H1 x Q q =>
  ha H1 x _ fun v H2 e2 p2 => hb H2 (x.trans e2) _ fun u H3 e3 p3 => hr v u H3 Q (dp_ex e3 p2) p3 fun v' H4 e4 p4 => q v' H4 ((e2.trans e3).trans e4) p4
theorem yn_op (ha : Yd K ta σ H d) (hb : Yd K tb σ H e) (hr : Rn2 K r d e zs) : Yn K (tOp r ta tb) σ H zs := fun H1 x Q q =>
  ha H1 x _ fun v H2 e2 p2 => hb H2 (x.trans e2) _ fun u H3 e3 p3 => hr v u H3 Q (dp_ex e3 p2) p3 fun p xs H4 hp e4 h4 p4 =>
    q p xs H4 (Evl.fresh_back (e2.trans e3) hp) ((e2.trans e3).trans e4) h4 p4
theorem yd_un {r : V → Hp → VK → Prop} (ha : Yd K ta σ H d) (hr : Rd1 K r d z) : Yd K (tUn r ta) σ H z := fun H1 x Q q =>
  ha H1 x _ fun v H2 e2 p2 => hr v H2 Q p2 fun v' H3 e3 p3 => q v' H3 (e2.trans e3) p3
theorem ya_nil : Ya K tNil σ H [] := fun H1 _ _ q => q [] H1 ex_rfl .nil
theorem ya_cons {tr : TA} (ha : Yd K ta σ H d) (hr : Ya K tr σ H ds) : Ya K (tCons ta tr) σ H (d :: ds) := fun H1 x Q q =>
  ha H1 x _ fun v H2 e2 p2 => hr H2 (x.trans e2) _ fun vs H3 e3 p3 => q (v :: vs) H3 (e2.trans e3) (.cons (dp_ex e3 p2) p3)
theorem yd_tup {t : TA} (h : Ya K t σ H ds) (hl : ds.length ≤ 100000) : Yd K (tTup t) σ H (.tuple ds) := fun H1 x Q q =>
  h H1 x _ fun vs H2 e2 p2 => ⟨Evl.sz_of (by rw [dps_len p2]; exact hl), fun p hp => q _ _ (e2.trans (Evl.Ex.new hp)) (.tup (.inl (.inl upd_same)) (dps_ex (Evl.Ex.new hp) p2))⟩
theorem yn_lst {t : TA} (h : Ya K t σ H ds) (hl : ds.length ≤ 100000) : Yn K (tLst t) σ H ds := fun H1 x Q q =>
  h H1 x _ fun vs H2 e2 p2 => ⟨Evl.sz_of (by rw [dps_len p2]; exact hl), fun p hp => q p vs _ (Evl.fresh_back e2 hp) (e2.trans (Evl.Ex.new hp)) upd_same (dps_ex (Evl.Ex.new hp) p2)⟩
theorem yd_cb {r : List V → Hp → VK → Prop} {t : TA} (h : Ya K t σ H ds) (hr : RdC K r ds z) : Yd K (tCB r t) σ H z := fun H1 x Q q =>
  h H1 x _ fun vs H2 e2 p2 => hr vs H2 Q p2 fun v' H3 e3 p3 => q v' H3 (e2.trans e3) p3
theorem yn_cb {r : List V → Hp → VK → Prop} {t : TA} (h : Ya K t σ H ds) (hr : RnC K r ds zs) : Yn K (tCB r t) σ H zs := fun H1 x Q q =>
  h H1 x _ fun vs H2 e2 p2 => hr vs H2 Q p2 fun p xs H3 hp e3 h3 p3 => q p xs H3 (Evl.fresh_back e2 hp) (e2.trans e3) h3 p3
theorem yd_if {b : Bool} (h : Yt t σ H b) (h1 : b = true → Yd K ta σ H d) (h2 : b = false → Yd K tb σ H d) : Yd K (tIf t ta tb) σ H d := fun H1 x Q q => h H1 x _ fun H2 e2 => by
  cases b with
  | true => exact h1 rfl H2 (x.trans e2) Q fun v H3 e3 p3 => q v H3 (e2.trans e3) p3
  | false => exact h2 rfl H2 (x.trans e2) Q fun v H3 e3 p3 => q v H3 (e2.trans e3) p3
/-! tests -/
theorem yt_test {b : Bool} (h : Yd K te σ H (.bool b)) : Yt (tTest te) σ H b := fun H1 x Q q => h H1 x _ fun v H2 e2 p2 => ⟨b, dp_bl p2, q H2 e2⟩
theorem yt_B {b : Bool} (h : Yd K te σ H (.bool b)) : Yt (tB te) σ H b := fun H1 x Q q => h H1 x _ fun v H2 e2 p2 => ⟨b, dp_bl p2, q H2 e2⟩
theorem yt_and {a b : Bool} (h1 : Yt t σ H a) (h2 : a = true → Yt u σ H b) : Yt (tAnd t u) σ H (a && b) := Evl.et_and h1 h2
theorem yt_or {a b : Bool} (h1 : Yt t σ H a) (h2 : a = false → Yt u σ H b) : Yt (tOr t u) σ H (a || b) := Evl.et_or h1 h2
theorem yt_not {a : Bool} (h : Yt t σ H a) : Yt (tNot t) σ H (!a) := Evl.et_not h
theorem yt_or0 (h1 : Yt t σ H false) (h2 : Yt u σ H false) : Yt (tOr t u) σ H false := Evl.et_or h1 fun _ => h2
theorem yt_and1 (h1 : Yt t σ H true) (h2 : Yt u σ H true) : Yt (tAnd t u) σ H true := Evl.et_and h1 fun _ => h2
theorem yt_and0 (h1 : Yt t σ H false) : Yt (tAnd t u) σ H false := Evl.et_and (b := false) h1 fun z => nomatch z
theorem yt_or1 (h1 : Yt t σ H true) : Yt (tOr t u) σ H true := Evl.et_or (b := true) h1 fun z => nomatch z
theorem yd_andV {a b : Bool} (h1 : Yd K ta σ H (.bool a)) (h2 : a = true → Yd K tb σ H (.bool b)) : Yd K (tAndV ta tb) σ H (.bool (a && b)) := fun H1 x Q q => h1 H1 x _ fun v H2 e2 p2 => ⟨a, dp_bl p2, by
  cases a with
  | true => exact h2 rfl H2 (x.trans e2) Q fun v H3 e3 p3 => q v H3 (e2.trans e3) p3
  | false => exact q _ H2 e2 (.bl false)⟩
theorem yd_orV {a b : Bool} (h1 : Yd K ta σ H (.bool a)) (h2 : a = false → Yd K tb σ H (.bool b)) : Yd K (tOrV ta tb) σ H (.bool (a || b)) := fun H1 x Q q => h1 H1 x _ fun v H2 e2 p2 => ⟨a, dp_bl p2, by
  cases a with
  | false => exact h2 rfl H2 (x.trans e2) Q fun v H3 e3 p3 => q v H3 (e2.trans e3) p3
  | true => exact q _ H2 e2 (.bl true)⟩
theorem yd_notV {a : Bool} (h1 : Yd K ta σ H (.bool a)) : Yd K (tNotV ta) σ H (.bool (!a)) := fun H1 x Q q => h1 H1 x _ fun v H2 e2 p2 => ⟨a, dp_bl p2, q _ H2 e2 (.bl _)⟩
theorem yd_chain {r r' : R2} {c : Dt} {a b : Bool} (ha : Yd K ta σ H d) (hb : Yd K tb σ H e) (hr : Rd2 K r d e (.bool a)) (hc : a = true → Yd K tc σ H c) (hr' : a = true → Rd2 K r' e c (.bool b)) : Yd K (tChain r r' ta tb tc) σ H (.bool (a && b)) := fun H1 x Q q =>
  ha H1 x _ fun v H2 e2 p2 => hb H2 (x.trans e2) _ fun u H3 e3 p3 => hr v u H3 _ (dp_ex e3 p2) p3 fun w H4 e4 p4 => ⟨a, dp_bl p4, by
    cases a with
    | true => exact hc rfl H4 (((x.trans e2).trans e3).trans e4) _ fun y H5 e5 p5 => hr' rfl u y H5 Q (dp_ex (e4.trans e5) p3) p5 fun z H6 e6 p6 => q z H6 ((((e2.trans e3).trans e4).trans e5).trans e6) p6
    | false => exact q _ H4 ((e2.trans e3).trans e4) (.bl false)⟩
/-! operations -/
theorem rd_I0 {g : Int → Int → Int} {i j : Int} : Rd2 K (rI0 fun i j => .int (g i j)) (.int i) (.int j) (.int (g i j)) := fun v u H Q p q k => ⟨i, j, dp_int p, dp_int q, k _ H ex_rfl (.int _)⟩
theorem rd_IB {g : Int → Int → Bool} {i j : Int} : Rd2 K (rI0 fun i j => .bl (g i j)) (.int i) (.int j) (.bool (g i j)) := fun v u H Q p q k => ⟨i, j, dp_int p, dp_int q, k _ H ex_rfl (.bl _)⟩
theorem rd_I {C : Int → Int → Prop} {g : Int → Int → Int} {i j : Int} (c : C i j) : Rd2 K (rI C fun i j => .int (g i j)) (.int i) (.int j) (.int (g i j)) := fun v u H Q p q k => ⟨i, j, dp_int p, dp_int q, c, k _ H ex_rfl (.int _)⟩
theorem rd_neg {i : Int} : Rd1 K (rU fun i => .int (-i)) (.int i) (.int (-i)) := fun v H Q p k => ⟨i, dp_int p, k _ H ex_rfl (.int _)⟩
theorem Rd2.inl {r r' : R2} (h : Rd2 K r d e z) : Rd2 K (fun x y H Q => r x y H Q ∨ r' x y H Q) d e z := fun v u H Q p q k => .inl (h v u H Q p q k)
theorem Rd2.inr {r r' : R2} (h : Rd2 K r' d e z) : Rd2 K (fun x y H Q => r x y H Q ∨ r' x y H Q) d e z := fun v u H Q p q k => .inr (h v u H Q p q k)
theorem Rn2.inl {r r' : R2} (h : Rn2 K r d e zs) : Rn2 K (fun x y H Q => r x y H Q ∨ r' x y H Q) d e zs := fun v u H Q p q k => .inl (h v u H Q p q k)
theorem Rn2.inr {r r' : R2} (h : Rn2 K r' d e zs) : Rn2 K (fun x y H Q => r x y H Q ∨ r' x y H Q) d e zs := fun v u H Q p q k => .inr (h v u H Q p q k)
theorem RdC.inl {r r' : List V → Hp → VK → Prop} (h : RdC K r ds z) : RdC K (fun x H Q => r x H Q ∨ r' x H Q) ds z := fun v H Q p k => .inl (h v H Q p k)
theorem RdC.inr {r r' : List V → Hp → VK → Prop} (h : RdC K r' ds z) : RdC K (fun x H Q => r x H Q ∨ r' x H Q) ds z := fun v H Q p k => .inr (h v H Q p k)
theorem rd_eqD (hd : SeqAt.shaped d = true) (he : SeqAt.shaped e = true) : Rd2 K (rEqD K) d e (.bool (PyData.eqv d e)) := fun v u H Q p q k => ⟨d, e, p, q, hd, he, k _ H ex_rfl (.bl _)⟩
theorem rd_neD (hd : SeqAt.shaped d = true) (he : SeqAt.shaped e = true) : Rd2 K (rNeD K) d e (.bool (!PyData.eqv d e)) := fun v u H Q p q k => ⟨d, e, p, q, hd, he, k _ H ex_rfl (.bl _)⟩
theorem rd_inD (hd : SeqAt.shaped d = true) (he : SeqAt.shaped (.list ds) = true) : Rd2 K (rInD K) d (.list ds) (.bool (ds.any fun z => PyData.eqv z d)) := fun v u H Q p q k => ⟨d, ds, p, q, hd, he, k _ H ex_rfl (.bl _)⟩
theorem rd_niD (hd : SeqAt.shaped d = true) (he : SeqAt.shaped (.list ds) = true) : Rd2 K (rNotInD K) d (.list ds) (.bool (!ds.any fun z => PyData.eqv z d)) := fun v u H Q p q k => ⟨d, ds, p, q, hd, he, k _ H ex_rfl (.bl _)⟩
/-! an item -/
theorem atI_dps {i : Int} {H : Hp} {xs : List V} (p : DpAll K H xs ds) (h : atI ds i = some d) : ∃ v, atI xs i = some v ∧ Dp K H v d := by
  unfold atI at h ⊢
  rw [dps_len p]
  cases q : ixN ds.length i with
  | none => rw [q] at h; cases h
  | some j =>
    rw [q] at h
    exact dps_get (i := j) p h
theorem rd_ixL {i : Int} (h : atI ds i = some d) : Rd2 K (rIx K) (.list ds) (.int i) d := fun v u H Q p q k => by
  obtain ⟨a, xs, rfl, hs, hd⟩ := dp_lst p
  obtain ⟨w, h1, h2⟩ := atI_dps hd h
  exact .inl ⟨a, xs, i, w, rfl, dp_int q, hs, h1, k w H ex_rfl h2⟩
theorem rd_ixT {i : Int} (h : atI ds i = some d) : Rd2 K (rIx K) (.tuple ds) (.int i) d := fun v u H Q p q k => by
  obtain ⟨a, xs, rfl, hs, hd⟩ := dp_tup p
  obtain ⟨w, h1, h2⟩ := atI_dps hd h
  exact .inr (.inl ⟨a, xs, i, w, rfl, dp_int q, hs, h1, k w H ex_rfl h2⟩)
/-! len -/
theorem rd_lenL : RdC K (fun xs H Q => ∃ x n, xs = [x] ∧ LenV K x H n ∧ Q (.int n) H) [.list ds] (.int ds.length) := fun vs H Q p k => by
  obtain ⟨v, r, rfl, h1, h2⟩ := dps_cons p
  obtain rfl := dps_nil h2
  obtain ⟨a, xs, rfl, hs, hd⟩ := dp_lst h1
  exact ⟨_, xs.length, rfl, .inl ⟨xs, hs, rfl⟩, k _ H ex_rfl (by rw [dps_len hd]; exact .int _)⟩
theorem rd_lenT : RdC K (fun xs H Q => ∃ x n, xs = [x] ∧ LenV K x H n ∧ Q (.int n) H) [.tuple ds] (.int ds.length) := fun vs H Q p k => by
  obtain ⟨v, r, rfl, h1, h2⟩ := dps_cons p
  obtain rfl := dps_nil h2
  obtain ⟨a, xs, rfl, hs, hd⟩ := dp_tup h1
  exact ⟨_, xs.length, rfl, .inr ⟨xs, hs, rfl⟩, k _ H ex_rfl (by rw [dps_len hd]; exact .int _)⟩
theorem rd_lenS {x : Str} (h : x.length ≤ 100000) : RdC K (fun xs H Q => ∃ x n, xs = [x] ∧ LenV K x H n ∧ Q (.int n) H) [.str x] (.int x.length) := fun vs H Q p k => by
  obtain ⟨v, r, rfl, h1, h2⟩ := dps_cons p
  obtain rfl := dps_nil h2
  obtain rfl := dp_str h1
  exact ⟨_, x.length, rfl, ⟨Evl.sz_of h, rfl⟩, k _ H ex_rfl (.int _)⟩
end
end Wc

/-! Statements, loops, comprehensions, defs over plain data. -/
namespace Wc
open PySem PySem.Spec PyProof.Rows L2
section
variable {K : Fg} {σ : L2.St} {H H' : Hp} {ta tb tc te : TE} {t u : TT} {d e z : Dt} {ds zs : List Dt} {v : V} {r : R2} {D : Ends} {tu tw tz : TS}
/-! ### statements, something behind -/
theorem a_val {i : Nat} (h : Yd K te σ H d) (k : ∀ v H1, Ex H H1 → Dp K H1 v d → tz D (σ.set i (some v)) H1) : tSeq (tAsg te (gName i)) tz D σ H := h H ex_rfl _ k
theorem a_int {i : Nat} {n : Int} (h : Yd K te σ H (.int n)) (k : ∀ H1, Ex H H1 → tz D (σ.set i (some (.int n))) H1) : tSeq (tAsg te (gName i)) tz D σ H := h H ex_rfl _ fun v H1 e1 p => by
  obtain rfl := dp_int p
  exact k H1 e1
theorem a_bl {i : Nat} {n : Bool} (h : Yd K te σ H (.bool n)) (k : ∀ H1, Ex H H1 → tz D (σ.set i (some (.bl n))) H1) : tSeq (tAsg te (gName i)) tz D σ H := h H ex_rfl _ fun v H1 e1 p => by
  obtain rfl := dp_bl p
  exact k H1 e1
theorem a_str {i : Nat} {n : Str} (h : Yd K te σ H (.str n)) (k : ∀ H1, Ex H H1 → tz D (σ.set i (some (.str n))) H1) : tSeq (tAsg te (gName i)) tz D σ H := h H ex_rfl _ fun v H1 e1 p => by
  obtain rfl := dp_str p
  exact k H1 e1
theorem a_new {i : Nat} (h : Yn K te σ H ds) (k : ∀ p xs H1, H p = none → Ex H H1 → H1 p = some (.lst xs) → DpAll K H1 xs ds → tz D (σ.set i (some (.ref p))) H1) : tSeq (tAsg te (gName i)) tz D σ H := h H ex_rfl _ k
theorem a_par {i j : Nat} {ta : TA} (h : Ya K ta σ H [d, e]) (k : ∀ v w H1, Ex H H1 → Dp K H1 v d → Dp K H1 w e → tz D ((σ.set i (some v)).set j (some w)) H1) : tSeq (tPar i j ta) tz D σ H := h H ex_rfl _ fun vs H1 e1 p => by
  obtain ⟨v, r, rfl, h1, h2⟩ := dps_cons p
  obtain ⟨w, r2, rfl, h3, h4⟩ := dps_cons h2
  obtain rfl := dps_nil h4
  exact ⟨v, w, rfl, k v w H1 e1 h1 h3⟩
theorem a_par3 {i j l : Nat} {f : Dt} {ta : TA} (h : Ya K ta σ H [d, e, f]) (k : ∀ v w x H1, Ex H H1 → Dp K H1 v d → Dp K H1 w e → Dp K H1 x f → tz D (((σ.set i (some v)).set j (some w)).set l (some x)) H1) : tSeq (tPar3 i j l ta) tz D σ H := h H ex_rfl _ fun vs H1 e1 p => by
  obtain ⟨v, r, rfl, h1, h2⟩ := dps_cons p
  obtain ⟨w, r2, rfl, h3, h4⟩ := dps_cons h2
  obtain ⟨x, r3, rfl, h5, h6⟩ := dps_cons h4
  obtain rfl := dps_nil h6
  exact ⟨v, w, x, rfl, k v w x H1 e1 h1 h3 h5⟩
theorem i_any {b : Bool} (h : Yt t σ H b) (h1 : b = true → ∀ H1, Ex H H1 → tu { D with nx := tz D } σ H1) (h2 : b = false → ∀ H1, Ex H H1 → tw { D with nx := tz D } σ H1) : tSeq (tIfS t tu tw) tz D σ H := Evl.q_if h h1 h2
theorem i_no (h : Yt t σ H false) (k : ∀ H1, Ex H H1 → tz D σ H1) : tSeq (tIfS t tu tNext) tz D σ H := Evl.q_when h (fun z => nomatch z) fun _ => k
theorem i_yes (h : Yt t σ H true) (k : ∀ H1, Ex H H1 → tu { D with nx := tz D } σ H1) : tSeq (tIfS t tu tw) tz D σ H := Evl.q_if h (fun _ => k) fun z => nomatch z
theorem i_no2 (h : Yt t σ H false) (k : ∀ H1, Ex H H1 → tw { D with nx := tz D } σ H1) : tSeq (tIfS t tu tw) tz D σ H := Evl.q_if h (fun z => nomatch z) fun _ => k
theorem j_any {b : Bool} (h : Yt t σ H b) (h1 : b = true → ∀ H1, Ex H H1 → tu D σ H1) (h2 : b = false → ∀ H1, Ex H H1 → tw D σ H1) : tIfS t tu tw D σ H := Evl.s_if h h1 h2
theorem j_yes (h : Yt t σ H true) (k : ∀ H1, Ex H H1 → tu D σ H1) : tIfS t tu tw D σ H := Evl.s_if h (fun _ => k) fun z => nomatch z
theorem j_no (h : Yt t σ H false) (k : ∀ H1, Ex H H1 → tw D σ H1) : tIfS t tu tw D σ H := Evl.s_if h (fun z => nomatch z) fun _ => k
theorem d_val (h : Yd K te σ H d) (k : ∀ H1, Ex H H1 → tz D σ H1) : tSeq (tDrop te) tz D σ H := h H ex_rfl _ fun _ H1 e1 _ => k H1 e1
theorem r_val (h : Yd K te σ H d) (k : ∀ v H1, Ex H H1 → Dp K H1 v d → D.rt v H1) : tRet te D σ H := h H ex_rfl _ k
theorem r_new (h : Yn K te σ H ds) (k : ∀ p xs H1, H p = none → Ex H H1 → H1 p = some (.lst xs) → DpAll K H1 xs ds → D.rt (.ref p) H1) : tRet te D σ H := h H ex_rfl _ k
theorem g_aug {i : Nat} {f : Int → Int → Int} {a b : Int} (hx : σ[i]? = some (some (.int a))) (h : Yd K te σ H (.int b)) (k : ∀ H1, Ex H H1 → tz D (σ.set i (some (.int (f a b)))) H1) : tSeq (tAug i te (ipI f)) tz D σ H :=
  ⟨.int a, hx, h H ex_rfl _ fun v H1 e1 p => ⟨a, b, rfl, dp_int p, k H1 e1⟩⟩
theorem g_aug1 {i : Nat} {f : Int → Int → Int} {a b : Int} (hx : σ[i]? = some (some (.int a))) (h : Yd K te σ H (.int b)) (k : ∀ H1, Ex H H1 → D.nx (σ.set i (some (.int (f a b)))) H1) : tAug i te (ipI f) D σ H :=
  ⟨.int a, hx, h H ex_rfl _ fun v H1 e1 p => ⟨a, b, rfl, dp_int p, k H1 e1⟩⟩
end

/-! ### what a def does, on data -/
inductive Res where
  | val (d : Dt) | new (ds : List Dt) | exc (x : Str) | opq
def Res.go (K : Fg) (r : Res) (H : Hp) (Q : VK) (E : XK) : Prop := match r with
  | .val d => ∀ v H2, Ex H H2 → Dp K H2 v d → Q v H2
  | .new ds => ∀ p xs H2, H p = none → Ex H H2 → H2 p = some (.lst xs) → DpAll K H2 xs ds → Q (.ref p) H2
  | .exc x => ∀ H2, Ex H H2 → E (.ref (He.ga K x)) none H2
  | .opq => ∀ v H2, Ex H H2 → Q v H2
/-- the promise: F arguments result -/
def spF (K : Fg) (F : List Dt → Res → Prop) : Sp := fun vs H Q E => ∃ ds r, DpAll K H vs ds ∧ F ds r ∧ r.go K H Q E
section
variable {K : Fg} {σ : L2.St} {H H' : Hp} {te : TE} {ta : TA} {d : Dt} {ds zs : List Dt} {D : Ends} {tz : TS} {F : List Dt → Res → Prop} {E : XK}
theorem yd_call (h : Ya K ta σ H ds) (f : F ds (.val d)) : Yd K (tCall (spF K F) [] E ta) σ H d := fun H1 x Q q => h H1 x _ fun vs H2 e2 p2 => by
  rw [List.append_nil]
  exact ⟨ds, _, p2, f, fun v H3 e3 p3 => q v H3 (e2.trans e3) p3⟩
theorem yn_call (h : Ya K ta σ H ds) (f : F ds (.new zs)) : Yn K (tCall (spF K F) [] E ta) σ H zs := fun H1 x Q q => h H1 x _ fun vs H2 e2 p2 => by
  rw [List.append_nil]
  exact ⟨ds, _, p2, f, fun p xs H3 hp e3 h3 p3 => q p xs H3 (Evl.fresh_back e2 hp) (e2.trans e3) h3 p3⟩
theorem ydn_call (h : Ya K ta σ H ds) (f : F ds (.new zs)) : Yd K (tCall (spF K F) [] E ta) σ H (.list zs) := (yn_call h f).yd
/-- a call that raises, anywhere it is the first thing done -/
theorem x_call {x : Str} {Q : VK} (h : Ya K ta σ H ds) (f : F ds (.exc x)) (k : ∀ H1, Ex H H1 → E (.ref (He.ga K x)) none H1) : tCall (spF K F) [] E ta σ H Q := h H ex_rfl _ fun vs H2 e2 p2 => by
  rw [List.append_nil]
  exact ⟨ds, _, p2, f, fun H3 e3 => k H3 (e2.trans e3)⟩
theorem c_ok (h : Ya K ta σ H ds) (f : F ds (.val d)) (k : ∀ H1, Ex H H1 → tz D σ H1) : tSeq (tDrop (tCall (spF K F) [] E ta)) tz D σ H := d_val (yd_call h f) k
theorem c_bad {x : Str} (h : Ya K ta σ H ds) (f : F ds (.exc x)) (k : ∀ H1, Ex H H1 → E (.ref (He.ga K x)) none H1) : tSeq (tDrop (tCall (spF K F) [] E ta)) tz D σ H := x_call h f k
theorem Res.mono {r : Res} {Q : VK} (e : Ex H H') (h : r.go K H Q E) : r.go K H' Q E := by
  cases r with
  | val d => exact fun v H2 e2 p => h v H2 (e.trans e2) p
  | new ds => exact fun p xs H2 hp e2 h2 q => h p xs H2 (Evl.fresh_back e hp) (e.trans e2) h2 q
  | exc x => exact fun H2 e2 => h H2 (e.trans e2)
  | opq => exact fun v H2 e2 => h v H2 (e.trans e2)
/-- the end of a body: what is promised is given -/
theorem r_go {Q : VK} {d : Dt} (h : Yd K te σ H d) (k : Res.go K (.val d) H Q E) (nx : L2.St → Hp → Prop := fun _ H' => Q .non H') : tRet te { nx := nx, rt := Q } σ H := h H ex_rfl _ k
theorem n_go {Q : VK} (h : Yn K te σ H zs) (k : Res.go K (.new zs) H Q E) (nx : L2.St → Hp → Prop := fun _ H' => Q .non H') : tRet te { nx := nx, rt := Q } σ H := h H ex_rfl _ k
end

/-! ### what is walked -/
structure Src (K : Fg) (J : It) (H0 : Hp) (n : Nat) (dI : Nat → Dt) : Prop where
  go : ∀ i H, i < n → Ex H0 H → J.go i H
  yld : ∀ i H x H', i < n → Ex H0 H → J.yld i H x H' → Ex H H' ∧ Dp K H' x (dI i)
  stop : ∀ H, Ex H0 H → J.stop n H
def Yi (K : Fg) (wi : TI) (σ : L2.St) (H : Hp) (n : Nat) (dI : Nat → Dt) : Prop := ∀ H1, Ex H H1 → ∀ R : It → Hp → Prop, (∀ J H2, Ex H1 H2 → Src K J H2 n dI → R J H2) → wi σ H1 R
def atD (ds : List Dt) (i : Nat) : Dt := ds.getD i .none
theorem atD_get {ds : List Dt} {i : Nat} (h : i < ds.length) : ds[i]? = some (atD ds i) := by
  unfold atD
  rw [List.getD_eq_getElem?_getD, List.getElem?_eq_getElem h] <;> rfl
section
variable {K : Fg} {σ : L2.St} {H H' : Hp} {te : TE} {ta : TA} {d : Dt} {ds es zs : List Dt} {n : Nat} {dI : Nat → Dt}
theorem Yi.mono {wi : TI} (x : Ex H H') (h : Yi K wi σ H n dI) : Yi K wi σ H' n dI := fun H1 a Q q => h H1 (x.trans a) Q q
theorem src_range {lo : Int} : Src K (Itr lo n) H n (fun i => .int (lo + i)) := ⟨fun i _ h _ => h, fun i H x H' _ _ y => by
  obtain ⟨rfl, rfl⟩ := y
  exact ⟨ex_rfl, .int _⟩, fun _ _ => Nat.le_refl _⟩
theorem src_rangeC {lo c : Int} : Src K (Itc lo c n) H n (fun i => .int (lo + (i : Nat) * c)) := ⟨fun i _ h _ => h, fun i H x H' _ _ y => by
  obtain ⟨rfl, rfl⟩ := y
  exact ⟨ex_rfl, .int _⟩, fun _ _ => Nat.le_refl _⟩
theorem src_list {a : Addr} {xs : List V} (h : SqL K H a xs) (hd : DpAll K H xs ds) : Src K (Itl K a) H ds.length (atD ds) := ⟨fun i H1 hi e => by
    have q : i < xs.length := by rw [dps_len hd]; exact hi
    exact ⟨xs, xs[i], Evl.ex_l e h, List.getElem?_eq_getElem q⟩, fun i H1 x H2 hi e y => by
    obtain ⟨rfl, y⟩ := y
    obtain ⟨d, h1, h2⟩ := dps_at (dps_ex e hd) (y xs (Evl.ex_l e h))
    rw [atD_get hi] at h1
    cases h1
    exact ⟨ex_rfl, h2⟩, fun H1 e => ⟨xs, Evl.ex_l e h, by rw [dps_len hd]; exact Nat.le_refl _⟩⟩
theorem src_tup {a : Addr} {xs : List V} (h : SqT K H a xs) (hd : DpAll K H xs ds) : Src K (Itt K a) H ds.length (atD ds) := ⟨fun i H1 hi e => by
    have q : i < xs.length := by rw [dps_len hd]; exact hi
    exact ⟨xs, xs[i], Evl.ex_t e h, List.getElem?_eq_getElem q⟩, fun i H1 x H2 hi e y => by
    obtain ⟨rfl, y⟩ := y
    obtain ⟨d, h1, h2⟩ := dps_at (dps_ex e hd) (y xs (Evl.ex_t e h))
    rw [atD_get hi] at h1
    cases h1
    exact ⟨ex_rfl, h2⟩, fun H1 e => ⟨xs, Evl.ex_t e h, by rw [dps_len hd]; exact Nat.le_refl _⟩⟩
theorem src_enum {a : Addr} {xs : List V} (h : SqL K H a xs) (hd : DpAll K H xs ds) : Src K (Ite K a) H ds.length (fun i => .tuple [.int (i : Nat), atD ds i]) := ⟨fun i H1 hi e => by
    have q : i < xs.length := by rw [dps_len hd]; exact hi
    exact ⟨xs, xs[i], Evl.ex_l e h, List.getElem?_eq_getElem q⟩, fun i H1 v H2 hi e y => by
    obtain ⟨T, x, rfl, hT, rfl, y⟩ := y
    obtain ⟨d, h1, h2⟩ := dps_at (dps_ex e hd) (y xs (Evl.ex_l e h))
    rw [atD_get hi] at h1
    cases h1
    exact ⟨Evl.Ex.new hT, .tup (.inl (.inl upd_same)) (.cons (.int _) (.cons (dp_ex (Evl.Ex.new hT) h2) .nil))⟩, fun H1 e => ⟨xs, Evl.ex_l e h, by rw [dps_len hd]; exact Nat.le_refl _⟩⟩
theorem src_zip {a b : Addr} {xs ys : List V} (h : SqL K H a xs) (h' : SqL K H b ys) (hd : DpAll K H xs ds) (he : DpAll K H ys es) : Src K (Itz K a b) H (min ds.length es.length) (fun i => .tuple [atD ds i, atD es i]) := ⟨fun i H1 hi e => by
    have q : i < xs.length := by rw [dps_len hd]; omega
    have q' : i < ys.length := by rw [dps_len he]; omega
    exact ⟨xs, ys, xs[i], ys[i], Evl.ex_l e h, Evl.ex_l e h', List.getElem?_eq_getElem q, List.getElem?_eq_getElem q'⟩, fun i H1 v H2 hi e y => by
    obtain ⟨T, x, y, rfl, hT, rfl, y1, y2⟩ := y
    obtain ⟨d, h1, h2⟩ := dps_at (dps_ex e hd) (y1 xs (Evl.ex_l e h))
    obtain ⟨d', h3, h4⟩ := dps_at (dps_ex e he) (y2 ys (Evl.ex_l e h'))
    rw [atD_get (by omega)] at h1 h3
    cases h1
    cases h3
    exact ⟨Evl.Ex.new hT, .tup (.inl (.inl upd_same)) (.cons (dp_ex (Evl.Ex.new hT) h2) (.cons (dp_ex (Evl.Ex.new hT) h4) .nil))⟩, fun H1 e => ⟨xs, ys, Evl.ex_l e h, Evl.ex_l e h', by rw [dps_len hd, dps_len he]; omega⟩⟩
theorem yi_list (h : Yd K te σ H (.list ds)) : Yi K (iList K te) σ H ds.length (atD ds) := fun H1 x R q => h H1 x _ fun v H2 e2 p2 => by
  obtain ⟨a, xs, rfl, h1, h2⟩ := dp_lst p2
  exact ⟨a, rfl, ⟨xs, h1⟩, q _ H2 e2 (src_list h1 h2)⟩
theorem yi_tup (h : Yd K te σ H (.tuple ds)) : Yi K (iTup K te) σ H ds.length (atD ds) := fun H1 x R q => h H1 x _ fun v H2 e2 p2 => by
  obtain ⟨a, xs, rfl, h1, h2⟩ := dp_tup p2
  exact ⟨a, rfl, ⟨xs, h1⟩, q _ H2 e2 (src_tup h1 h2)⟩
theorem yi_rng1 {m : Int} (h : Ya K ta σ H [.int m]) (hm : 0 ≤ m ∧ m ≤ 10000000) : Yi K (iRng1 ta) σ H m.toNat (fun i => .int (0 + i)) := fun H1 x R q => h H1 x _ fun vs H2 e2 p2 => by
  obtain ⟨v, r, rfl, h1, h2⟩ := dps_cons p2
  obtain rfl := dps_nil h2
  obtain rfl := dp_int h1
  exact ⟨m, rfl, by omega, by omega, q _ H2 e2 src_range⟩
theorem yi_rng2 {l m : Int} (h : Ya K ta σ H [.int l, .int m]) (hm : -10000000 ≤ l ∧ l ≤ 10000000 ∧ -10000000 ≤ m ∧ m ≤ 10000000) : Yi K (iRng2 ta) σ H (m - l).toNat (fun i => .int (l + i)) := fun H1 x R q => h H1 x _ fun vs H2 e2 p2 => by
  obtain ⟨v, r, rfl, h1, h2⟩ := dps_cons p2
  obtain ⟨v', r', rfl, h3, h4⟩ := dps_cons h2
  obtain rfl := dps_nil h4
  obtain rfl := dp_int h1
  obtain rfl := dp_int h3
  exact ⟨l, m, rfl, by omega, q _ H2 e2 src_range⟩
theorem yi_enum (h : Ya K ta σ H [.list ds]) : Yi K (iEnum K ta) σ H ds.length (fun i => .tuple [.int (i : Nat), atD ds i]) := fun H1 x R q => h H1 x _ fun vs H2 e2 p2 => by
  obtain ⟨v, r, rfl, h1, h2⟩ := dps_cons p2
  obtain rfl := dps_nil h2
  obtain ⟨a, xs, rfl, h3, h4⟩ := dp_lst h1
  exact ⟨a, xs, rfl, h3, q _ H2 e2 (src_enum h3 h4)⟩
theorem yi_zip (h : Ya K ta σ H [.list ds, .list es]) : Yi K (iZip K ta) σ H (min ds.length es.length) (fun i => .tuple [atD ds i, atD es i]) := fun H1 x R q => h H1 x _ fun vs H2 e2 p2 => by
  obtain ⟨v, r, rfl, h1, h2⟩ := dps_cons p2
  obtain ⟨v', r', rfl, h3, h4⟩ := dps_cons h2
  obtain rfl := dps_nil h4
  obtain ⟨a, xs, rfl, h5, h6⟩ := dp_lst h1
  obtain ⟨b, ys, rfl, h7, h8⟩ := dp_lst h3
  exact ⟨a, b, xs, ys, rfl, h5, h7, q _ H2 e2 (src_zip h5 h7 h6 h8)⟩
theorem yi_str {x : Str} (h : Yd K te σ H (.str x)) : Yi K (iStr te) σ H x.cps.size (fun i => .str ⟨#[x.cps.getD i 0]⟩) := fun H1 y R q => h H1 y _ fun v H2 e2 p2 => by
  obtain rfl := dp_str p2
  refine ⟨x, rfl, q _ H2 e2 ⟨fun i _ h _ => h, fun i H v H' hi _ y => ?_, fun _ _ => Nat.le_refl _⟩⟩
  obtain ⟨rfl, c, h1, rfl⟩ := y
  have e : x.cps.getD i 0 = c := by
    have : i < x.cps.size := hi
    rw [Array.getD, dif_pos this]
    exact Option.some.inj ((Array.getElem?_eq_getElem this).symm.trans h1)
  rw [e]
  exact ⟨ex_rfl, .str _⟩
end

/-! ### comprehensions -/
def kept (n : Nat) (f : Nat → Bool) (g : Nat → Dt) : List Dt := ((List.range n).filter f).map g
theorem kept_yes {n : Nat} {f : Nat → Bool} {g : Nat → Dt} (h : f n = true) : kept (n + 1) f g = kept n f g ++ [g n] := by
  unfold kept
  rw [List.range_succ, List.filter_append, List.map_append, List.filter_cons, if_pos h] <;> rfl
theorem kept_no {n : Nat} {f : Nat → Bool} {g : Nat → Dt} (h : f n = false) : kept (n + 1) f g = kept n f g := by
  unfold kept
  rw [List.range_succ, List.filter_append, List.map_append, List.filter_cons, if_neg (by rw [h]; decide)]
  show _ ++ [] = _
  rw [List.append_nil]
theorem kept_len (n : Nat) (f : Nat → Bool) (g : Nat → Dt) : (kept n f g).length ≤ n := by
  unfold kept
  rw [List.length_map]
  have h := List.length_filter_le f (List.range n)
  rw [List.length_range] at h
  exact h
section
variable {K : Fg} {σ : L2.St} {H H' : Hp} {wi : TI} {g : TG} {t : TT} {te : TE} {vs : List Nat} {n : Nat} {dI : Nat → Dt}
theorem kept_noLst {f : Nat → Bool} {v : Nat → Dt} (hv : ∀ i, i < n → f i = true → noLst (v i) = true) : ∀ i, i ≤ n → noLsts (kept i f v) = true
  | 0, _ => by show noLsts [] = true; rw [noLsts]
  | i + 1, hi => by
    cases q : f i with
    | true =>
      rw [kept_yes q]
      exact noLsts_app (kept_noLst hv i (by omega)) (by rw [noLsts, hv i (by omega) q, noLsts] <;> rfl)
    | false =>
      rw [kept_no q]
      exact kept_noLst hv i (by omega)
/-- [e for target in source if test]: Sg says which slots the target leaves -/
theorem yn_lcG (hi : Yi K wi σ H n dI) (hn : n ≤ 100000) (f : Nat → Bool) (v : Nat → Dt) (hv : ∀ i, i < n → f i = true → noLst (v i) = true) (Sg : Nat → L2.St → Hp → Prop)
    (hg : ∀ i x H1 (R : L2.St → Hp → Prop), i < n → Ex H H1 → Dp K H1 x (dI i) → (∀ σ2, Sg i σ2 H1 → R σ2 H1) → g x (wipe σ vs) H1 R)
    (hw : ∀ i σ2 H1, Sg i σ2 H1 → wipe σ2 vs = wipe σ vs)
    (ht : ∀ i σ2 H1, i < n → Ex H H1 → Sg i σ2 H1 → Yt t σ2 H1 (f i)) (he : ∀ i σ2 H1, i < n → Ex H H1 → f i = true → Sg i σ2 H1 → Yd K te σ2 H1 (v i))
    (hs : ∀ i σ2 H1 H2, Ex H1 H2 → Sg i σ2 H1 → Sg i σ2 H2) :
    Yn K (tLc wi g t te vs) σ H (kept n f v) := fun H0 x Q q => hi H0 x _ fun J H1 e1 S => fun Dl hD => by
  refine ⟨fun i m H' => m = n - i ∧ i ≤ n ∧ Ex H1 H' ∧ ∃ acc, H' Dl = some (.lst acc) ∧ DpAll K H' acc (kept i f v), ⟨n, by simp, Nat.zero_le _, Evl.Ex.new hD, [], upd_same, .nil⟩, ?_⟩
  rintro i m H' ⟨rfl, hin, eH, acc, hacc, hda⟩
  by_cases hlt : i < n
  · refine .inr ⟨S.go i H' hlt eH, fun H2 => Ex H1 H2 ∧ ∃ acc, H2 Dl = some (.lst acc) ∧ DpAll K H2 acc (kept (i + 1) f v), fun H2 ⟨p1, p2⟩ => ⟨n - (i + 1), by omega, rfl, hlt, p1, p2⟩, fun y H2 hy => ?_⟩
    obtain ⟨e2, dy⟩ := S.yld i H' y H2 hlt eH hy
    have eHH2 : Ex H H2 := ((x.trans e1).trans eH).trans e2
    refine hg i y H2 _ hlt eHH2 dy fun σ2 s2 => ⟨hw i σ2 H2 s2, ?_⟩
    refine ht i σ2 H2 hlt eHH2 s2 H2 ex_rfl _ fun H3 e3 => ?_
    cases hf : f i with
    | true =>
      show te σ2 H3 _
      refine he i σ2 H3 hlt (eHH2.trans e3) hf (hs i σ2 H2 H3 e3 s2) H3 ex_rfl _ fun z H4 e4 p4 => ?_
      have h4 : H4 Dl = some (.lst acc) := e4 _ _ (e3 _ _ (e2 _ _ hacc))
      have l4 : acc.length < sizeLine := Evl.sz_lt (by rw [dps_len hda]; have := kept_len i f v; omega)
      have lx : Lx H4 (upd H4 Dl (.lst (acc ++ [z]))) := Lx.upd h4
      refine ⟨acc, h4, l4, Evl.Ex.mut (((eH.trans e2).trans e3).trans e4) hD, acc ++ [z], upd_same, ?_⟩
      rw [kept_yes hf]
      exact dps_app (dps_lx lx (kept_noLst hv i hin) (dps_ex ((e2.trans e3).trans e4) hda)) (.cons (dp_lx lx (hv i hlt hf) p4) .nil)
    | false =>
      show Ex H1 H3 ∧ _
      refine ⟨(eH.trans e2).trans e3, acc, e3 _ _ (e2 _ _ hacc), ?_⟩
      rw [kept_no hf]
      exact dps_ex (e2.trans e3) hda
  · have en : i = n := by omega
    subst en
    exact .inl ⟨S.stop H' eH, q Dl acc H' (Evl.fresh_back e1 hD) (e1.trans eH) hacc hda⟩
/-- the target one name -/
theorem yn_lc {j : Nat} (hi : Yi K wi σ H n dI) (hn : n ≤ 100000) (f : Nat → Bool) (v : Nat → Dt) (hv : ∀ i, i < n → f i = true → noLst (v i) = true) (hw : ∀ x, wipe ((wipe σ vs).set j (some x)) vs = wipe σ vs)
    (ht : ∀ i y H1, i < n → Ex H H1 → Dp K H1 y (dI i) → Yt t ((wipe σ vs).set j (some y)) H1 (f i)) (he : ∀ i y H1, i < n → Ex H H1 → f i = true → Dp K H1 y (dI i) → Yd K te ((wipe σ vs).set j (some y)) H1 (v i)) :
    Yn K (tLc wi (gName j) t te vs) σ H (kept n f v) :=
  yn_lcG hi hn f v hv (fun i σ2 H1 => ∃ y, σ2 = (wipe σ vs).set j (some y) ∧ Dp K H1 y (dI i)) (fun i x H1 R hlt eH dx k => k _ ⟨x, rfl, dx⟩)
    (fun i σ2 H1 ⟨y, e, _⟩ => e ▸ hw y) (fun i σ2 H1 hlt eH ⟨y, e, dy⟩ => e ▸ ht i y H1 hlt eH dy) (fun i σ2 H1 hlt eH hf ⟨y, e, dy⟩ => e ▸ he i y H1 hlt eH hf dy) (fun i σ2 H1 H2 e2 ⟨y, e, dy⟩ => ⟨y, e, dp_ex e2 dy⟩)
/-- the target two names -/
theorem yn_lc2 {j k : Nat} {d1 d2 : Nat → Dt} (hi : Yi K wi σ H n fun i => .tuple [d1 i, d2 i]) (hn : n ≤ 100000) (f : Nat → Bool) (v : Nat → Dt) (hv : ∀ i, i < n → f i = true → noLst (v i) = true) (hw : ∀ x y, wipe (((wipe σ vs).set j (some x)).set k (some y)) vs = wipe σ vs)
    (ht : ∀ i y z H1, i < n → Ex H H1 → Dp K H1 y (d1 i) → Dp K H1 z (d2 i) → Yt t (((wipe σ vs).set j (some y)).set k (some z)) H1 (f i))
    (he : ∀ i y z H1, i < n → Ex H H1 → f i = true → Dp K H1 y (d1 i) → Dp K H1 z (d2 i) → Yd K te (((wipe σ vs).set j (some y)).set k (some z)) H1 (v i)) :
    Yn K (tLc wi (gTup K 2 (gCons (gName j) (gCons (gName k) gNil))) t te vs) σ H (kept n f v) :=
  yn_lcG hi hn f v hv (fun i σ2 H1 => ∃ y z, σ2 = ((wipe σ vs).set j (some y)).set k (some z) ∧ Dp K H1 y (d1 i) ∧ Dp K H1 z (d2 i)) (fun i x H1 R hlt eH dx q => by
      obtain ⟨a, xs, rfl, h1, h2⟩ := dp_tup dx
      obtain ⟨y, r, rfl, h3, h4⟩ := dps_cons h2
      obtain ⟨z, r2, rfl, h5, h6⟩ := dps_cons h4
      obtain rfl := dps_nil h6
      exact ⟨a, [y, z], rfl, h1, rfl, y, [z], rfl, z, [], rfl, rfl, q _ ⟨y, z, rfl, h3, h5⟩⟩)
    (fun i σ2 H1 ⟨y, z, e, _⟩ => e ▸ hw y z) (fun i σ2 H1 hlt eH ⟨y, z, e, dy, dz⟩ => e ▸ ht i y z H1 hlt eH dy dz) (fun i σ2 H1 hlt eH hf ⟨y, z, e, dy, dz⟩ => e ▸ he i y z H1 hlt eH hf dy dz)
    (fun i σ2 H1 H2 e2 ⟨y, z, e, dy, dz⟩ => ⟨y, z, e, dp_ex e2 dy, dp_ex e2 dz⟩)
theorem yt_yes : Yt tYes σ H true := fun H1 _ Q q => q H1 ex_rfl
end

/-! ### for -/
section
variable {K : Fg} {σ : L2.St} {H H' : Hp} {wi : TI} {g : TG} {tb tz : TS} {n : Nat} {dI : Nat → Dt} {D : Ends}
/-- a word of turn, slots, heap; the source stands over a base B of which all the loop's heaps are extensions -/
theorem f_gen (hi : Yi K wi σ H n dI) (Pv : Nat → L2.St → Hp → Prop) (h0 : ∀ H1, Ex H H1 → Pv 0 σ H1) (hb : ∀ i σ' H', i ≤ n → Pv i σ' H' → Ex H H')
    (hs : ∀ i x σ' H', i < n → Dp K H' x (dI i) → Pv i σ' H' → g x σ' H' fun σ2 H2 => tb { D with nx := Pv (i + 1), ct := Pv (i + 1), bk := tz D } σ2 H2)
    (hx : ∀ i σ' H1 H2, Ex H1 H2 → Pv i σ' H1 → Pv i σ' H2) (hd : ∀ σ' H', Pv n σ' H' → tz D σ' H')
    (hB : ∀ J H1 H2, Ex H H1 → Src K J H1 n dI → Ex H H2 → Src K J H2 n dI) : tSeq (tFor wi g tb) tz D σ H := hi H ex_rfl _ fun J H1 e1 S => by
  refine ⟨fun i m σ' H' => m = n - i ∧ i ≤ n ∧ Pv i σ' H', ⟨n, by simp, Nat.zero_le _, h0 H1 e1⟩, ?_⟩
  rintro i m σ' H' ⟨rfl, hin, p⟩
  have eH := hb i σ' H' hin p
  have S' := hB J H1 H' e1 S eH
  by_cases hlt : i < n
  · refine .inr ⟨S'.go i H' hlt ex_rfl, Pv (i + 1), fun σ2 H2 p2 => ⟨n - (i + 1), by omega, rfl, hlt, p2⟩, fun y H2 hy => ?_⟩
    obtain ⟨e2, dy⟩ := S'.yld i H' y H2 hlt ex_rfl hy
    exact hs i y σ' H2 hlt dy (hx i σ' H' H2 e2 p)
  · have en : i = n := by omega
    subst en
    exact .inl ⟨S'.stop H' ex_rfl, hd σ' H' p⟩
end

/-! ### defs -/
section
variable {P : Program} {w : World} {K : Fg} {mg : Str → Option Value} {base : Heap}
structure Cal (P : Program) (w : World) (K : Fg) (mg : Str → Option Value) (base : Heap) (x : Str) (ps : List Str) (k : Nat) (sp : Sp) : Prop where
  ex : ∃ (f : Addr) (fd : FuncData), FnOk P w K mg base (L2.CX P w) k f fd ps sp ∧ mg x = some (.ref f) ∧ PySem.W.keepIn K (.ref f) = true ∧ Binds K fd ps []
/-- a def of the top as it stands -/
structure Df (K : Fg) (mg : Str → Option Value) (x : Str) (st : Stmt) : Prop where
  ex : ∃ (f : Addr) (fd : FuncData), FunD K x x (defArgs st) (defBody st) (defScope st) [] [] f fd ∧ mg x = some (.ref f)
theorem Df.cal {x : Str} {st : Stmt} {N ps : List Str} {k : Nat} {sp : Sp} (F : Df K mg x st) (S : FnScope N ps (defScope st))
    (hbi : ∀ (kV doc pm : Value) (an : Option Addr) (cdv ct : Value) (us : List Value), us.length = ps.length → bindArgs (PySem.W.fnOf x x (defArgs st) (defBody st) (defScope st) .none kV doc pm an cdv ct) ⟨us, []⟩ = pure (ps.zip us))
    (len : ∀ vs H Q E, sp vs H Q E → vs.length = ps.length)
    (hbody : ∀ (f : Addr) (cdv : Value) (A : Around) (outer : List Env) (s : Shared) (H : Hp) (vs : List V) (Q : VK) (E : XK), Room k (A.deeper (envOfC x (defScope st) s.heap.objs.size f cdv)) → sp vs H Q E →
      ∃ t, PSs (cxOf (L2.CX P w) P w K mg base N x (defScope st) f cdv A outer s H E) (defBody st) t ∧ t { nx := fun _ H' => Q .non H', rt := Q } (start N vs) H) : Cal P w K mg base x ps (k + 1) sp := by
  obtain ⟨f, fd, F, hm⟩ := F.ex
  exact ⟨f, fd, F.ok S len fun cdv A outer s H vs Q E hr h => hbody f cdv A outer s H vs Q E hr h, hm, F.kp, F.bindsN hbi⟩
/-- .. with a promise on data -/
theorem Df.calF {x : Str} {st : Stmt} {N ps : List Str} {k : Nat} {F : List Dt → Res → Prop} (Z : Df K mg x st) (S : FnScope N ps (defScope st))
    (hbi : ∀ (kV doc pm : Value) (an : Option Addr) (cdv ct : Value) (us : List Value), us.length = ps.length → bindArgs (PySem.W.fnOf x x (defArgs st) (defBody st) (defScope st) .none kV doc pm an cdv ct) ⟨us, []⟩ = pure (ps.zip us))
    (len : ∀ ds r, F ds r → ds.length = ps.length)
    (hbody : ∀ (f : Addr) (cdv : Value) (A : Around) (outer : List Env) (s : Shared) (H : Hp) (vs : List V) (Q : VK) (E : XK) (ds : List Dt) (r : Res), Room k (A.deeper (envOfC x (defScope st) s.heap.objs.size f cdv)) → DpAll K H vs ds → F ds r → r.go K H Q E →
      ∃ t, PSs (cxOf (L2.CX P w) P w K mg base N x (defScope st) f cdv A outer s H E) (defBody st) t ∧ t { nx := fun _ H' => Q .non H', rt := Q } (start N vs) H) : Cal P w K mg base x ps (k + 1) (spF K F) :=
  Z.cal S hbi (fun vs H Q E ⟨ds, r, hd, hf, _⟩ => (dps_len hd).trans (len ds r hf)) fun f cdv A outer s H vs Q E hr ⟨ds, r, hd, hf, hk⟩ => hbody f cdv A outer s H vs Q E ds r hr hd hf hk
theorem pe_cal {X : Cx} {x : Str} {ps : List Str} {k : Nat} {sp : Sp} {E : XK} {e : Expr} {es : List Expr} {t : TA} {p pos : Pos} (C : Cal X.prog X.w X.K X.mg X.base x ps k sp) (hr : Room k X.A) (hx : Passes (L2.CX X.prog X.w) X E) (ha : PA X (e :: es) t)
    (hg : Gl X x := by rfl) (hdb : (x == ("__debug__" : Str)) = false := by decide) (he : starEach (e :: es) X.env = (false, eval e X.env) :: starEach es X.env := by rfl) (hpl : (backTo pos (starEach es X.env)).any (·.1) = false := by rfl) :
    PE X (.Call (.Name x p) (e :: es) [] pos) (tCall sp [] E t) := by
  obtain ⟨f, fd, F, hm, hk, hb⟩ := C.ex
  exact pe_call F hr hg hm hk hb .nil hx ha hdb he hpl
theorem pe_cal0 {X : Cx} {x : Str} {ps : List Str} {k : Nat} {sp : Sp} {E : XK} {p pos : Pos} (C : Cal X.prog X.w X.K X.mg X.base x ps k sp) (hr : Room k X.A) (hx : Passes (L2.CX X.prog X.w) X E)
    (hg : Gl X x := by rfl) (hdb : (x == ("__debug__" : Str)) = false := by decide) : PE X (.Call (.Name x p) [] [] pos) (tCall sp [] E tNil) := by
  obtain ⟨f, fd, F, hm, hk, hb⟩ := C.ex
  exact pe_call0 F hr hg hm hk hb .nil hx hdb
/-- what a callee lets out leaves this def as its own -/
theorem px {P : Program} {w : World} {K : Fg} {mg : Str → Option Value} {base : Heap} {N : List Str} {qual : Str} {scope : Scope} {f : Addr} {cd : Value} {A : Around} {outer : List Env} {s : Shared} {H : Hp} {E : XK} :
    Passes (L2.CX P w) (cxOf (L2.CX P w) P w K mg base N qual scope f cd A outer s H E) E := passes_call (takes_of rfl rfl rfl rfl) fun _ _ _ _ h => h
/-- an exception class of the text -/
structure ExF (K : Fg) (mg : Str → Option Value) (x : Str) : Prop where
  g : mg x = some (.ref (He.ga K x))
  q : PySem.W.excIn K (He.ga K x) He.veBase "ValueError.__new__" = true
  kp : PySem.W.keepIn K (.ref (He.ga K x)) = true
  sub : PySem.W.subIn K (.ref (He.ga K x)) (.type "BaseException") = some true
  ty : PySem.W.typeIn K (.ref (He.ga K x)) = some (.type "type")
/-- raise X('m') -/
def tRz (K : Fg) (x : Str) (E : XK) : TS := fun _ _ H => E (.ref (He.ga K x)) none H
theorem ps_rz {x m : Str} {j : Nat} {p p2 pos pos2 : Pos} {N : List Str} {qual : Str} {scope : Scope} {f : Addr} {cd : Value} {A : Around} {outer : List Env} {s : Shared} {H : Hp} {E : XK} (F : ExF K mg x)
    (hg : Gl (cxOf (L2.CX P w) P w K mg base N qual scope f cd A outer s H E) x := by rfl) (hdb : (x == ("__debug__" : Str)) = false := by decide) :
    PS (cxOf (L2.CX P w) P w K mg base N qual scope f cd A outer s H E) (.Raise (some (.Call (.Name x p) [.Constant (.str m) j p2] [] pos)) none pos2) (tRz K x E) :=
  ps_raise rfl (takes_of rfl rfl rfl rfl) (pmk_own PySem.F.excBase_ValueError F.q F.g F.kp (raises_own F.sub F.ty) hg hdb)
end
end Wc

/-! Kinds of data, isinstance, small rules; the tactics by walk_at. -/
namespace Wc
open PySem PySem.Spec PyProof.Rows L2
/-! ### isinstance of data and a built-in class -/
def tyN : Dt → String
  | .none => "NoneType"
  | .bool _ => "bool"
  | .int _ => "int"
  | .str _ => "str"
  | .list _ => "list"
  | .tuple _ => "tuple"
  | .dict _ => "dict"
section
variable {K : Fg} {σ : L2.St} {H H' : Hp} {ta tb te : TE} {d e z : Dt} {ds zs : List Dt} {v : V}
theorem tyX_of : ∀ {d : Dt} {v : V}, Dp K H v d → TyX K H v (.type (tyN d))
  | .none, _, h => by cases h; exact .base .non
  | .bool _, _, h => by cases h; exact .base (.bl _)
  | .int _, _, h => by cases h; exact .base (.int _)
  | .str _, _, h => by cases h; exact .base (.str _)
  | .list _, _, h => by
    obtain ⟨a, xs, rfl, (h | ⟨o, h⟩) | ⟨o, its, n, h, hc, _⟩, _⟩ := dp_lst h
    · exact .base (.lst h)
    · exact .base (.frz h)
    · exact .kList h hc
  | .tuple _, _, h => by
    obtain ⟨a, xs, rfl, (h | ⟨o, h⟩) | ⟨o, its, n, h, hc, _⟩, _⟩ := dp_tup h
    · exact .base (.tup h)
    · exact .fTuple h
    · exact .kTuple h hc
  | .dict _, _, h => by cases h
def isTy (d : Dt) (n : String) : Bool := (kitB (tyN d) n).getD false
theorem yd_isi {n : String} {b : Bool} (h : Yd K te σ H d) (hb : kitB (tyN d) n = some b) : Yd K (tCB (rIsi K) (tCons te (tCons (tC (.ty n)) tNil))) σ H (.bool b) := fun H1 x Q q =>
  h H1 x _ fun v H2 e2 p2 => ⟨v, .ty n, _, _, b, rfl, .ty n, tyX_of p2, kit_ty hb, q _ H2 e2 (.bl b)⟩
/-! ### int operations by their conditions -/
theorem rd_mod {i j : Int} (h : 0 < j) : Rd2 K (rI (fun _ j => 0 < j) fun i j => .int (i % j)) (.int i) (.int j) (.int (i % j)) := rd_I (g := fun i j => i % j) h
theorem rd_fdiv {i j : Int} (h : 0 < j ∧ j < 1073741824) : Rd2 K (rI CDiv fun i j => .int (i / j)) (.int i) (.int j) (.int (i / j)) := rd_I (g := fun i j => i / j) h
theorem rd_mulR {i j : Int} (h : -18446744073709551616 < j ∧ j < 18446744073709551616) : Rd2 K (rI CMul fun i j => .int (i * j)) (.int i) (.int j) (.int (i * j)) := rd_I (g := fun i j => i * j) (.inr ⟨by omega, by omega⟩)
theorem rd_mulL {i j : Int} (h : -18446744073709551616 < i ∧ i < 18446744073709551616) : Rd2 K (rI CMul fun i j => .int (i * j)) (.int i) (.int j) (.int (i * j)) := rd_I (g := fun i j => i * j) (.inl ⟨by omega, by omega⟩)
theorem rd_pow {i j : Int} (h : 0 ≤ j ∧ j ≤ 1000000 ∧ i.natAbs < 2 ^ 64) : Rd2 K (rI CPow fun i j => .int (i ^ j.toNat)) (.int i) (.int j) (.int (i ^ j.toNat)) := rd_I (g := fun i j => i ^ j.toNat) h
theorem rd_add {i j : Int} : Rd2 K (rI0 fun i j => .int (i + j)) (.int i) (.int j) (.int (i + j)) := rd_I0 (g := fun i j => i + j)
theorem rd_sub {i j : Int} : Rd2 K (rI0 fun i j => .int (i - j)) (.int i) (.int j) (.int (i - j)) := rd_I0 (g := fun i j => i - j)
theorem rd_lt {i j : Int} : Rd2 K (rI0 fun i j => .bl (decide (i < j))) (.int i) (.int j) (.bool (decide (i < j))) := rd_IB (g := fun i j => decide (i < j))
theorem rd_le {i j : Int} : Rd2 K (rI0 fun i j => .bl (decide (i ≤ j))) (.int i) (.int j) (.bool (decide (i ≤ j))) := rd_IB (g := fun i j => decide (i ≤ j))
theorem rd_gt {i j : Int} : Rd2 K (rI0 fun i j => .bl (decide (j < i))) (.int i) (.int j) (.bool (decide (j < i))) := rd_IB (g := fun i j => decide (j < i))
theorem rd_ge {i j : Int} : Rd2 K (rI0 fun i j => .bl (decide (j ≤ i))) (.int i) (.int j) (.bool (decide (j ≤ i))) := rd_IB (g := fun i j => decide (j ≤ i))
/-! ### == on scalars, on any data -/
theorem shp_int {i : Int} : SeqAt.shaped (.int i) = true := by simp [SeqAt.shaped, PyData.canLay0, PyData.depth]
theorem shp_bl {i : Bool} : SeqAt.shaped (.bool i) = true := by simp [SeqAt.shaped, PyData.canLay0, PyData.depth]
theorem shp_non : SeqAt.shaped .none = true := by simp [SeqAt.shaped, PyData.canLay0, PyData.depth]
theorem rd_eqI {i j : Int} : Rd2 K (rEqD K) (.int i) (.int j) (.bool (decide (i = j))) := fun v u H Q p q k => rd_eqD shp_int shp_int v u H Q p q fun v' H2 e2 h => k v' H2 e2 (by
  have : PyData.eqv (.int i) (.int j) = decide (i = j) := by rw [PyData.eqv]; exact Bool.beq_eq_decide_eq i j
  rw [← this]; exact h)
theorem rd_neI {i j : Int} : Rd2 K (rNeD K) (.int i) (.int j) (.bool (decide (i ≠ j))) := fun v u H Q p q k => rd_neD shp_int shp_int v u H Q p q fun v' H2 e2 h => k v' H2 e2 (by
  have : (!PyData.eqv (.int i) (.int j)) = decide (i ≠ j) := by rw [PyData.eqv, Bool.beq_eq_decide_eq i j]; exact (decide_not).symm
  rw [← this]; exact h)
theorem shp_str {x : Str} (h : PyData.strOk x = true) : SeqAt.shaped (.str x) = true := by simp [SeqAt.shaped, PyData.canLay0, PyData.depth, h]
theorem rd_eqS {x y : Str} (hx : PyData.strOk x = true) (hy : PyData.strOk y = true) : Rd2 K (rEqD K) (.str x) (.str y) (.bool (decide (x = y))) := fun v u H Q p q k => rd_eqD (shp_str hx) (shp_str hy) v u H Q p q fun v' H2 e2 h => k v' H2 e2 (by
  have : PyData.eqv (.str x) (.str y) = decide (x = y) := by rw [PyData.eqv]; exact Bool.beq_eq_decide_eq x y
  rw [← this]; exact h)
theorem rd_neS {x y : Str} (hx : PyData.strOk x = true) (hy : PyData.strOk y = true) : Rd2 K (rNeD K) (.str x) (.str y) (.bool (decide (x ≠ y))) := fun v u H Q p q k => rd_neD (shp_str hx) (shp_str hy) v u H Q p q fun v' H2 e2 h => k v' H2 e2 (by
  have : (!PyData.eqv (.str x) (.str y)) = decide (x ≠ y) := by rw [PyData.eqv, Bool.beq_eq_decide_eq x y]; exact (decide_not).symm
  rw [← this]; exact h)
/-! ### in a written tuple of texts -/
theorem inV_strs {x : Str} : ∀ {ys : List Str}, inV (.str x) (ys.map V.str) = decide (x ∈ ys)
  | [] => by simp [inV]
  | y :: ys => by
    have ih := inV_strs (x := x) (ys := ys)
    unfold inV at ih ⊢
    rw [List.map_cons, List.any_cons, ih]
    have e : eqV (V.str y) (V.str x) = decide (x = y) := by
      show (y == x) = _
      rw [Bool.beq_eq_decide_eq]
      exact decide_eq_decide.mpr ⟨Eq.symm, Eq.symm⟩
    rw [e, ← Bool.decide_or]
    exact decide_eq_decide.mpr List.mem_cons.symm
theorem of_dps_strs : ∀ {ns : List Str} {vs : List V}, DpAll K H vs (ns.map .str) → vs = ns.map V.str
  | [], _, h => by cases h; rfl
  | n :: r, _, h => by
    cases h with
    | cons a t => cases a; exact congrArg _ (of_dps_strs t)
theorem flats (ys : List Str) : (ys.map V.str).all flatV = true := by
  rw [List.all_eq_true]
  intro x hx
  obtain ⟨y, _, rfl⟩ := List.mem_map.mp hx
  rfl
theorem rd_inT {x : Str} {ys : List Str} (e : ds = ys.map .str) : Rd2 K (rIn K false) (.str x) (.tuple ds) (.bool (decide (x ∈ ys))) := fun v u H Q p q k => by
  subst e
  obtain ⟨a, xs, rfl, hs, hd⟩ := dp_tup q
  obtain rfl := of_dps_strs hd
  obtain rfl := dp_str p
  refine ⟨a, _, rfl, .inr hs, rfl, flats ys, ?_⟩
  show Q (.bl (inV (.str x) (ys.map V.str))) H
  rw [inV_strs]
  exact k _ H ex_rfl (.bl _)
theorem rd_niT {x : Str} {ys : List Str} (e : ds = ys.map .str) : Rd2 K (rIn K true) (.str x) (.tuple ds) (.bool (!decide (x ∈ ys))) := fun v u H Q p q k => by
  subst e
  obtain ⟨a, xs, rfl, hs, hd⟩ := dp_tup q
  obtain rfl := of_dps_strs hd
  obtain rfl := dp_str p
  refine ⟨a, _, rfl, .inr hs, rfl, flats ys, ?_⟩
  show Q (.bl (!inV (.str x) (ys.map V.str))) H
  rw [inV_strs]
  exact k _ H ex_rfl (.bl _)
/-! ### is -/
theorem rd_isN : Rd2 K (fun x y H Q => y = .non ∧ Q (.bl (decide (x = .non))) H) d .none (.bool (decide (tyN d = "NoneType"))) := fun v u H Q p q k => by
  obtain rfl := dp_non q
  refine ⟨rfl, ?_⟩
  have e : decide (v = V.non) = decide (tyN d = "NoneType") := by
    cases p <;> first | rfl | exact decide_eq_decide.mpr ⟨fun z => (nomatch z), fun z => absurd z (by simp [tyN])⟩
  rw [e]
  exact k _ H ex_rfl (.bl _)
theorem rd_notN : Rd2 K (fun x y H Q => y = .non ∧ Q (.bl (!decide (x = .non))) H) d .none (.bool (!decide (tyN d = "NoneType"))) := fun v u H Q p q k => by
  obtain rfl := dp_non q
  refine ⟨rfl, ?_⟩
  have e : decide (v = V.non) = decide (tyN d = "NoneType") := by
    cases p <;> first | rfl | exact decide_eq_decide.mpr ⟨fun z => (nomatch z), fun z => absurd z (by simp [tyN])⟩
  rw [e]
  exact k _ H ex_rfl (.bl _)
theorem rd_isB {a b : Bool} : Rd2 K rIsB (.bool a) (.bool b) (.bool (decide (a = b))) := fun v u H Q p q k => ⟨a, b, dp_bl p, dp_bl q, k _ H ex_rfl (.bl _)⟩
theorem rd_notB {a b : Bool} : Rd2 K rNotB (.bool a) (.bool b) (.bool (!decide (a = b))) := fun v u H Q p q k => ⟨a, b, dp_bl p, dp_bl q, k _ H ex_rfl (.bl _)⟩
/-! ### min, max, abs of ints -/
theorem rd_min2 {i j : Int} : RdC K (fun xs H Q => ∃ i j, xs = [.int i, .int j] ∧ Q (.int (if j < i then j else i)) H) [.int i, .int j] (.int (min i j)) := fun vs H Q p k => by
  obtain ⟨v, r, rfl, h1, h2⟩ := dps_cons p
  obtain ⟨v', r', rfl, h3, h4⟩ := dps_cons h2
  obtain rfl := dps_nil h4
  obtain rfl := dp_int h1
  obtain rfl := dp_int h3
  refine ⟨i, j, rfl, ?_⟩
  have e : (if j < i then j else i) = min i j := by
    split <;> omega
  rw [e]
  exact k _ H ex_rfl (.int _)
theorem rd_max2 {i j : Int} : RdC K (fun xs H Q => ∃ i j, xs = [.int i, .int j] ∧ Q (.int (if j > i then j else i)) H) [.int i, .int j] (.int (max i j)) := fun vs H Q p k => by
  obtain ⟨v, r, rfl, h1, h2⟩ := dps_cons p
  obtain ⟨v', r', rfl, h3, h4⟩ := dps_cons h2
  obtain rfl := dps_nil h4
  obtain rfl := dp_int h1
  obtain rfl := dp_int h3
  refine ⟨i, j, rfl, ?_⟩
  have e : (if j > i then j else i) = max i j := by
    split <;> omega
  rw [e]
  exact k _ H ex_rfl (.int _)
theorem rd_abs {i : Int} : RdC K (fun xs H Q => ∃ i, xs = [.int i] ∧ Q (.int (if i < 0 then -i else i)) H) [.int i] (.int i.natAbs) := fun vs H Q p k => by
  obtain ⟨v, r, rfl, h1, h2⟩ := dps_cons p
  obtain rfl := dps_nil h2
  obtain rfl := dp_int h1
  refine ⟨i, rfl, ?_⟩
  have e : (if i < 0 then -i else i) = (i.natAbs : Int) := by
    split <;> omega
  rw [e]
  exact k _ H ex_rfl (.int _)
end
section
variable {X : Cx}
/-- a module's constant -/
theorem pe_gint {x : Str} {i : Int} {pos : Pos} (h : ∃ t, X.mg x = some (.int i t)) (hg : Gl X x := by rfl) (hd : (x == ("__debug__" : Str)) = false := by decide) : PE X (.Name x pos) (tC (.int i)) := by
  obtain ⟨t, h⟩ := h
  exact pe_glob hg h ⟨t, rfl⟩ hd
theorem pe_gstr {x : Str} {i : Str} {pos : Pos} (h : ∃ t, X.mg x = some (.str i t)) (hg : Gl X x := by rfl) (hd : (x == ("__debug__" : Str)) = false := by decide) : PE X (.Name x pos) (tC (.str i)) := by
  obtain ⟨t, h⟩ := h
  exact pe_glob hg h ⟨t, rfl⟩ hd
theorem hu65 {k : Nat} {A : Around} (hr : Room k A) : A.units + 65 < cLine := by
  have h := hr.un
  have hd := hr.hd
  omega
end
/-! ### while -/
section
variable {σ : L2.St} {H : Hp} {t : TT} {tu tz : TS} {D : Ends}
theorem w_while (W : Nat → L2.St → Hp → Prop) (m0 : Nat) (h0 : W m0 σ H)
    (hs : ∀ m σ' H', W m σ' H' → ∃ b, Yt t σ' H' b ∧ (b = true → ∀ H1, Ex H' H1 → tu { D with nx := fun σ2 H2 => ∃ m', m' < m ∧ W m' σ2 H2, ct := fun σ2 H2 => ∃ m', m' < m ∧ W m' σ2 H2, bk := tz D } σ' H1) ∧ (b = false → ∀ H1, Ex H' H1 → tz D σ' H1)) : tSeq (tWhile t tu) tz D σ H :=
  Evl.q_while W m0 h0 fun m σ' H' hw => by
    obtain ⟨b, h1, h2, h3⟩ := hs m σ' H' hw
    exact ⟨b, h1, fun hb H1 e1 => ⟨_, fun _ _ h => h, h2 hb H1 e1⟩, h3⟩
end
end Wc
namespace Wc
open PySem PySem.Spec PyProof.Rows L2
def isT (n : String) (d : Dt) : Bool := match d with
  | .none => false
  | .bool _ => n == "bool" || n == "int"
  | .int _ => n == "int"
  | .str _ => n == "str"
  | .list _ => n == "list"
  | .tuple _ => n == "tuple"
  | .dict _ => false
theorem kit_isT {d : Dt} (hd : ∀ x, d ≠ .dict x) {n : String} (hn : n ∈ ["int", "bool", "str", "list", "tuple"]) : kitB (tyN d) n = some (isT n d) := by
  simp only [List.mem_cons, List.mem_nil_iff, or_false] at hn
  cases d with
  | dict x => exact absurd rfl (hd x)
  | _ => rcases hn with rfl | rfl | rfl | rfl | rfl <;> (simp only [tyN, isT]; decide +kernel)
theorem yd_isiT {K : Fg} {σ : L2.St} {H : Hp} {te : TE} {d : Dt} {n : String} (h : Yd K te σ H d) (hn : n ∈ ["int", "bool", "str", "list", "tuple"]) : Yd K (tCB (rIsi K) (tCons te (tCons (tC (.ty n)) tNil))) σ H (.bool (isT n d)) := fun H1 x Q q =>
  h H1 x _ fun v H2 e2 p2 => ⟨v, .ty n, _, _, isT n d, rfl, .ty n, tyX_of p2, kit_ty (kit_isT (fun y z => by rw [z] at p2; cases p2) hn), q _ H2 e2 (.bl _)⟩
end Wc
namespace Wc
open PySem PySem.Spec PyProof.Rows L2
section
variable {K : Fg} {a b c : Dt} {r ds : List Dt}
theorem rd_t0 : Rd2 K (rIx K) (.tuple (a :: r)) (.int 0) a := rd_ixT (atI_nat (j := 0) rfl)
theorem rd_t1 : Rd2 K (rIx K) (.tuple (a :: b :: r)) (.int 1) b := rd_ixT (atI_nat (j := 1) rfl)
theorem rd_t2 : Rd2 K (rIx K) (.tuple (a :: b :: c :: r)) (.int 2) c := rd_ixT (atI_nat (j := 2) rfl)
theorem rd_l0 : Rd2 K (rIx K) (.list (a :: r)) (.int 0) a := rd_ixL (atI_nat (j := 0) rfl)
theorem rd_ln {j : Nat} (h : ds[j]? = some a) : Rd2 K (rIx K) (.list ds) (.int (j : Int)) a := rd_ixL (atI_nat h)
theorem rd_li {i : Int} (h0 : 0 ≤ i) (h : ds[i.toNat]? = some a) : Rd2 K (rIx K) (.list ds) (.int i) a := by
  have e : ((i.toNat : Nat) : Int) = i := by omega
  have := rd_ln (K := K) h
  rw [e] at this
  exact this
theorem rd_lm {xs : List Dt} : Rd2 K (rIx K) (.list (xs ++ [a])) (.int (-1)) a := rd_ixL (atI_last xs a)
end
end Wc
namespace Wc
open PySem PySem.Spec PyProof.Rows L2
section
variable {K : Fg} {σ : L2.St} {H : Hp} {ta : TA} {te : TE} {d e : Dt} {ds : List Dt} {D : Ends} {tz : TS} {i j : Nat}
/-! the last statement of a block -/
theorem z_par (h : Ya K ta σ H [d, e]) (k : ∀ v w H1, Ex H H1 → Dp K H1 v d → Dp K H1 w e → D.nx ((σ.set i (some v)).set j (some w)) H1) : tPar i j ta D σ H := h H ex_rfl _ fun vs H1 e1 p => by
  obtain ⟨v, r, rfl, h1, h2⟩ := dps_cons p
  obtain ⟨w, r2, rfl, h3, h4⟩ := dps_cons h2
  obtain rfl := dps_nil h4
  exact ⟨v, w, rfl, k v w H1 e1 h1 h3⟩
theorem z_parI {x y : Int} (h : Ya K ta σ H [.int x, .int y]) (k : ∀ H1, Ex H H1 → D.nx ((σ.set i (some (.int x))).set j (some (.int y))) H1) : tPar i j ta D σ H := z_par h fun v w H1 e1 p q => by
  obtain rfl := dp_int p
  obtain rfl := dp_int q
  exact k H1 e1
theorem a_parI {x y : Int} (h : Ya K ta σ H [.int x, .int y]) (k : ∀ H1, Ex H H1 → tz D ((σ.set i (some (.int x))).set j (some (.int y))) H1) : tSeq (tPar i j ta) tz D σ H := a_par h fun v w H1 e1 p q => by
  obtain rfl := dp_int p
  obtain rfl := dp_int q
  exact k H1 e1
theorem z_val (h : Yd K te σ H d) (k : ∀ v H1, Ex H H1 → Dp K H1 v d → D.nx (σ.set i (some v)) H1) : tAsg te (gName i) D σ H := h H ex_rfl _ k
theorem z_int {n : Int} (h : Yd K te σ H (.int n)) (k : ∀ H1, Ex H H1 → D.nx (σ.set i (some (.int n))) H1) : tAsg te (gName i) D σ H := h H ex_rfl _ fun v H1 e1 p => by
  obtain rfl := dp_int p
  exact k H1 e1
theorem z_drop (h : Yd K te σ H d) (k : ∀ H1, Ex H H1 → D.nx σ H1) : tDrop te D σ H := h H ex_rfl _ fun _ H1 e1 _ => k H1 e1
end
end Wc
namespace Wc
open PySem PySem.Spec PyProof.Rows L2
section
variable {σ : L2.St} {H : Hp} {t : TT} {tu tz : TS} {D : Ends}
theorem i_when {b : Bool} (h : Yt t σ H b) (h1 : b = true → ∀ H1, Ex H H1 → tu { D with nx := tz D } σ H1) (h2 : b = false → ∀ H1, Ex H H1 → tz D σ H1) : tSeq (tIfS t tu tNext) tz D σ H := Evl.q_when h h1 h2
theorem j_when {b : Bool} (h : Yt t σ H b) (h1 : b = true → ∀ H1, Ex H H1 → tu D σ H1) (h2 : b = false → ∀ H1, Ex H H1 → D.nx σ H1) : tIfS t tu tNext D σ H := Evl.s_when h h1 h2
theorem j_nox (h : Yt t σ H false) (k : ∀ H1, Ex H H1 → D.nx σ H1) : tIfS t tu tNext D σ H := Evl.s_when h (fun z => nomatch z) fun _ => k
end
end Wc

/-! Equality of plain data; the law's draws: what stays beside them. -/
namespace Wc
open PySem PySem.Spec PyProof.Rows L2
theorem canlay_ints : ∀ ns : List Int, PyData.canLayAll0 (ns.map .int) = true
  | [] => by simp [PyData.canLayAll0]
  | n :: r => by
    show PyData.canLayAll0 (.int n :: r.map .int) = true
    rw [PyData.canLayAll0, canlay_ints r]
    simp [PyData.canLay0]
theorem depth_ints : ∀ ns : List Int, PyData.depthAll (ns.map .int) = 0
  | [] => by simp [PyData.depthAll]
  | n :: r => by
    show PyData.depthAll (.int n :: r.map .int) = 0
    rw [PyData.depthAll, depth_ints r]
    simp [PyData.depth]
theorem shp_ints (ns : List Int) : SeqAt.shaped (.list (ns.map .int)) = true := by
  unfold SeqAt.shaped
  rw [PyData.canLay0, canlay_ints, PyData.depth, depth_ints] <;> rfl
theorem eqv_ints : ∀ ns ms : List Int, PyData.eqvAll (ns.map .int) (ms.map .int) = decide (ns = ms)
  | [], [] => by simp [PyData.eqvAll]
  | [], m :: r => by simp [PyData.eqvAll]
  | n :: r, [] => by simp [PyData.eqvAll]
  | n :: r, m :: t => by
    show PyData.eqvAll (.int n :: r.map .int) (.int m :: t.map .int) = _
    rw [PyData.eqvAll, eqv_ints r t, PyData.eqv, Bool.beq_eq_decide_eq, ← Bool.decide_and]
    exact decide_eq_decide.mpr ⟨fun h => by rw [h.1, h.2], fun h => ⟨(List.cons.inj h).1, (List.cons.inj h).2⟩⟩
section
variable {K : Fg} {σ : L2.St} {H : Hp} {t : TT} {ta tb : TE} {ds : List Dt}
theorem rd_eqL {ns ms : List Int} : Rd2 K (rEqD K) (.list (ns.map .int)) (.list (ms.map .int)) (.bool (decide (ns = ms))) := fun v u H Q p q k => rd_eqD (shp_ints ns) (shp_ints ms) v u H Q p q fun v' H2 e2 h => k v' H2 e2 (by
  rw [← eqv_ints, ← PyData.eqv]; exact h)
theorem rd_neL {ns ms : List Int} : Rd2 K (rNeD K) (.list (ns.map .int)) (.list (ms.map .int)) (.bool (decide (ns ≠ ms))) := fun v u H Q p q k => rd_neD (shp_ints ns) (shp_ints ms) v u H Q p q fun v' H2 e2 h => k v' H2 e2 (by
  have : (!PyData.eqv (.list (ns.map .int)) (.list (ms.map .int))) = decide (ns ≠ ms) := by rw [PyData.eqv, eqv_ints]; exact decide_not.symm
  rw [← this]; exact h)
theorem yn_if {b : Bool} (h : Yt t σ H b) (h1 : b = true → Yn K ta σ H ds) (h2 : b = false → Yn K tb σ H ds) : Yn K (tIf t ta tb) σ H ds := fun H1 x Q q => h H1 x _ fun H2 e2 => by
  cases b with
  | true => exact h1 rfl H2 (x.trans e2) Q fun p xs H3 hp e3 h3 p3 => q p xs H3 (Evl.fresh_back e2 hp) (e2.trans e3) h3 p3
  | false => exact h2 rfl H2 (x.trans e2) Q fun p xs H3 hp e3 h3 p3 => q p xs H3 (Evl.fresh_back e2 hp) (e2.trans e3) h3 p3
theorem rn_list : RnC K (fun xs H Q => ∃ p ys, xs = [.ref p] ∧ (SqL K H p ys ∨ SqT K H p ys) ∧ ∀ l, H l = none → Q (.ref l) (upd H l (.lst ys))) [.list ds] ds := fun vs H Q p k => by
  obtain ⟨v, r, rfl, h1, h2⟩ := dps_cons p
  obtain rfl := dps_nil h2
  obtain ⟨a, xs, rfl, hs, hd⟩ := dp_lst h1
  exact ⟨a, xs, rfl, .inl hs, fun l hl => k l xs _ hl (Evl.Ex.new hl) upd_same (dps_ex (Evl.Ex.new hl) hd)⟩
end
/-- the draws: p the pair, q the numbers -/
def Dr (H : Hp) (p q : Addr) : Prop := p ≠ q ∧ ∃ (c : Int) (ns : List Int), H p = some (.lst [.ref q, .int c]) ∧ H q = some (.lst (ns.map V.int)) ∧ ns ≠ [] ∧ ns.length ≤ 100
/-- all but the draws stays -/
def Exd (p q : Addr) (H H' : Hp) : Prop := ∀ a o, a ≠ p → a ≠ q → H a = some o → H' a = some o
theorem Exd.trans {p q : Addr} {H H1 H2 : Hp} (a : Exd p q H H1) (b : Exd p q H1 H2) : Exd p q H H2 := fun x o h1 h2 h => b x o h1 h2 (a x o h1 h2 h)
theorem Exd.of_ex {p q : Addr} {H H1 : Hp} (a : Ex H H1) : Exd p q H H1 := fun x o _ _ h => a x o h
theorem Dr.ex {p q : Addr} {H H1 : Hp} (a : Ex H H1) (h : Dr H p q) : Dr H1 p q := by
  obtain ⟨n, c, ns, h1, h2, h3⟩ := h
  exact ⟨n, c, ns, a _ _ h1, a _ _ h2, h3⟩
/-- the heap without the draws -/
def msk (p q : Addr) (H : Hp) : Hp := fun a => if a = p ∨ a = q then none else H a
theorem msk_ex {p q : Addr} {H : Hp} : Ex (msk p q H) H := fun a o h => by
  unfold msk at h
  split at h
  · cases h
  · exact h
theorem msk_exd {p q : Addr} {H H' : Hp} (e : Exd p q H H') : Ex (msk p q H) H' := fun a o h => by
  unfold msk at h
  split at h
  · cases h
  · rename_i n
    exact e a o (fun z => n (.inl z)) (fun z => n (.inr z)) h
theorem msk_p {p q : Addr} {H : Hp} : msk p q H p = none := by unfold msk; rw [if_pos (.inl rfl)]
theorem msk_q {p q : Addr} {H : Hp} : msk p q H q = none := by unfold msk; rw [if_pos (.inr rfl)]
theorem msk_at {p q : Addr} {H : Hp} {a : Addr} (h1 : a ≠ p) (h2 : a ≠ q) : msk p q H a = H a := by
  unfold msk
  rw [if_neg (fun z => z.elim h1 h2)]
def spStart (K : Fg) : Sp := fun vs H Q _ => ∃ (a : Addr) (ns : List Int), vs = [.ref a] ∧ SqL K H a (ns.map V.int) ∧ ns.length ≤ 63 ∧ ∀ p q H2, H p = none → H q = none → Ex H H2 → Dr H2 p q → Q (.ref p) H2
def spDraw : Sp := fun vs H Q _ => ∃ (p q : Addr) (n : Int), vs = [.ref p, .int n] ∧ 0 < n ∧ n ≤ 1000001 ∧ Dr H p q ∧ ∀ r H2, 0 ≤ r → r < n → Exd p q H H2 → Dr H2 p q → Q (.int r) H2
def spPick (K : Fg) : Sp := fun vs H Q _ => ∃ (p q a : Addr) (xs : List V), vs = [.ref p, .ref a] ∧ Dr H p q ∧ SqL K (msk p q H) a xs ∧ xs ≠ [] ∧ xs.length ≤ 1000 ∧ ∀ x H2, x ∈ xs → Exd p q H H2 → Dr H2 p q → Q x H2
/-! ### plain data: ints, texts, bools apart -/
mutual
def pl : Dt → Bool
  | .int _ => true
  | .str x => PyData.strOk x
  | .list xs => pls xs
  | .tuple xs => pls xs
  | _ => false
def pls : List Dt → Bool
  | [] => true
  | x :: r => pl x && pls r
end
mutual
theorem eqv_pl : ∀ {d e : Dt}, pl d = true → pl e = true → (PyData.eqv d e = true ↔ d = e)
  | .int i, .int j, _, _ => by rw [PyData.eqv, beq_iff_eq]; simp
  | .str x, .str y, _, _ => by rw [PyData.eqv, beq_iff_eq]; simp
  | .list xs, .list ys, h, g => by rw [pl] at h g; rw [PyData.eqv, eqv_pls h g]; simp
  | .tuple xs, .tuple ys, h, g => by rw [pl] at h g; rw [PyData.eqv, eqv_pls h g]; simp
  | .int _, .str _, _, _ | .int _, .list _, _, _ | .int _, .tuple _, _, _ => by simp [PyData.eqv]
  | .str _, .int _, _, _ | .str _, .list _, _, _ | .str _, .tuple _, _, _ => by simp [PyData.eqv]
  | .list _, .int _, _, _ | .list _, .str _, _, _ | .list _, .tuple _, _, _ => by simp [PyData.eqv]
  | .tuple _, .int _, _, _ | .tuple _, .str _, _, _ | .tuple _, .list _, _, _ => by simp [PyData.eqv]
  | .none, _, h, _ => by simp [pl] at h
  | .bool _, _, h, _ => by simp [pl] at h
  | .dict _, _, h, _ => by simp [pl] at h
  | .int _, .none, _, h | .str _, .none, _, h | .list _, .none, _, h | .tuple _, .none, _, h => by simp [pl] at h
  | .int _, .bool _, _, h | .str _, .bool _, _, h | .list _, .bool _, _, h | .tuple _, .bool _, _, h => by simp [pl] at h
  | .int _, .dict _, _, h | .str _, .dict _, _, h | .list _, .dict _, _, h | .tuple _, .dict _, _, h => by simp [pl] at h
theorem eqv_pls : ∀ {ds es : List Dt}, pls ds = true → pls es = true → (PyData.eqvAll ds es = true ↔ ds = es)
  | [], [], _, _ => by simp [PyData.eqvAll]
  | [], _ :: _, _, _ => by simp [PyData.eqvAll]
  | _ :: _, [], _, _ => by simp [PyData.eqvAll]
  | x :: r, y :: s, h, g => by
    rw [pls, Bool.and_eq_true] at h g
    rw [PyData.eqvAll, Bool.and_eq_true, eqv_pl h.1 g.1, eqv_pls h.2 g.2]
    simp
end
mutual
theorem lay_pl : ∀ {d : Dt}, pl d = true → PyData.canLay0 d = true
  | .int _, _ => by rw [PyData.canLay0]
  | .str _, h => by rw [pl] at h; rw [PyData.canLay0]; exact h
  | .list _, h => by rw [pl] at h; rw [PyData.canLay0]; exact lay_pls h
  | .tuple _, h => by rw [pl] at h; rw [PyData.canLay0]; exact lay_pls h
  | .none, h => by simp [pl] at h
  | .bool _, h => by simp [pl] at h
  | .dict _, h => by simp [pl] at h
theorem lay_pls : ∀ {ds : List Dt}, pls ds = true → PyData.canLayAll0 ds = true
  | [], _ => by rw [PyData.canLayAll0]
  | x :: r, h => by
    rw [pls, Bool.and_eq_true] at h
    rw [PyData.canLayAll0, lay_pl h.1, lay_pls h.2] <;> rfl
end
theorem pls_mem {ds : List Dt} : (∀ d ∈ ds, pl d = true) → pls ds = true := by
  induction ds with
  | nil => intro _; rw [pls]
  | cons x r ih => intro h; rw [pls, h x List.mem_cons_self, ih fun d hd => h d (List.mem_cons_of_mem _ hd)] <;> rfl
theorem pls_map {α : Type} {l : List α} {f : α → Dt} (h : ∀ x, pl (f x) = true) : pls (l.map f) = true := pls_mem fun d hd => by
  obtain ⟨x, _, rfl⟩ := List.mem_map.mp hd
  exact h x
/-- nested at most so deep -/
theorem depth_mem {n : Nat} : ∀ {ds : List Dt}, (∀ d ∈ ds, d.depth ≤ n) → PyData.depthAll ds ≤ n
  | [], _ => by rw [PyData.depthAll]; exact Nat.zero_le _
  | x :: r, h => by
    rw [PyData.depthAll]
    exact Nat.max_le.mpr ⟨h x List.mem_cons_self, depth_mem fun d hd => h d (List.mem_cons_of_mem _ hd)⟩
theorem depth_map {α : Type} {l : List α} {f : α → Dt} {n : Nat} (h : ∀ x, (f x).depth ≤ n) : PyData.depthAll (l.map f) ≤ n := depth_mem fun d hd => by
  obtain ⟨x, _, rfl⟩ := List.mem_map.mp hd
  exact h x
theorem shp_pl {d : Dt} (h : pl d = true) (hd : d.depth ≤ 64) : SeqAt.shaped d = true := by
  unfold SeqAt.shaped
  rw [lay_pl h, decide_eq_true hd] <;> rfl
section
variable {K : Fg} {σ : L2.St} {H M : Hp} {t : TT} {te tu ta tb tl : TE} {d e : Dt} {ds : List Dt} {p q : Addr} {φ ψ : V → Prop} {D : Ends} {tz : TS} {i j : Nat}
theorem rd_eqP {b : Bool} (h : pl d = true) (h' : pl e = true) (g : d.depth ≤ 64) (g' : e.depth ≤ 64) (hb : b = true ↔ d = e) : Rd2 K (rEqD K) d e (.bool b) := fun v u H Q p q k => rd_eqD (shp_pl h g) (shp_pl h' g') v u H Q p q fun v' H2 e2 x => k v' H2 e2 (by
  have : PyData.eqv d e = b := Bool.eq_iff_iff.mpr ((eqv_pl h h').trans hb.symm)
  rw [← this]; exact x)
theorem rd_neP {b : Bool} (h : pl d = true) (h' : pl e = true) (g : d.depth ≤ 64) (g' : e.depth ≤ 64) (hb : b = true ↔ d ≠ e) : Rd2 K (rNeD K) d e (.bool b) := fun v u H Q p q k => rd_neD (shp_pl h g) (shp_pl h' g') v u H Q p q fun v' H2 e2 x => k v' H2 e2 (by
  have : (!PyData.eqv d e) = b := Bool.eq_iff_iff.mpr (by rw [Bool.not_eq_true', ← Bool.not_eq_true, eqv_pl h h']; exact hb.symm)
  rw [← this]; exact x)
/-! ### readings that draw -/
structure Md (M : Hp) (p q : Addr) (H : Hp) : Prop where
  ex : Ex M H
  mp : M p = none
  mq : M q = none
  dr : Dr H p q
theorem Md.next {H2 : Hp} (h : Md M p q H) (e : Exd p q H H2) (d : Dr H2 p q) : Md M p q H2 := ⟨fun a o ha => e a o (fun z => by rw [z, h.mp] at ha; cases ha) (fun z => by rw [z, h.mq] at ha; cases ha) (h.ex a o ha), h.mp, h.mq, d⟩
theorem Md.step {H2 : Hp} (h : Md M p q H) (e : Ex H H2) : Md M p q H2 := h.next (Exd.of_ex e) (h.dr.ex e)
theorem Md.up (h : Md M p q H) : Ex M (msk p q H) := fun a o ha => by
  rw [msk_at (fun z => by rw [z, h.mp] at ha; cases ha) (fun z => by rw [z, h.mq] at ha; cases ha)]
  exact h.ex a o ha
theorem Md.re (h : Dr H p q) : Md (msk p q H) p q H := ⟨msk_ex, msk_p, msk_q, h⟩
theorem msk_l {a : Addr} {xs : List V} (h : H a = some (.lst xs)) (h1 : a ≠ p) (h2 : a ≠ q) : SqL K (msk p q H) a xs := SqL.of (by rw [msk_at h1 h2]; exact h)
theorem msk_t {a : Addr} {xs : List V} (hd : Dr H p q) (h : SqT K H a xs) : SqT K (msk p q H) a xs := by
  obtain ⟨_, c, ns, h1, h2, _⟩ := hd
  rcases h with (h | ⟨o, h⟩) | h
  · refine .inl (.inl ?_)
    rw [msk_at (fun z => by rw [z, h1] at h; cases h) (fun z => by rw [z, h2] at h; cases h)]
    exact h
  · refine .inl (.inr ⟨o, ?_⟩)
    rw [msk_at (fun z => by rw [z, h1] at h; cases h) (fun z => by rw [z, h2] at h; cases h)]
    exact h
  · exact .inr h
mutual
theorem dp_msk (hd : Dr H p q) : ∀ {d : Dt} {v : V}, noLst d = true → Dp K H v d → Dp K (msk p q H) v d
  | .none, _, _, h => by cases h; exact .non
  | .bool _, _, _, h => by cases h; exact .bl _
  | .int _, _, _, h => by cases h; exact .int _
  | .str _, _, _, h => by cases h; exact .str _
  | .list _, _, n, _ => by simp [noLst] at n
  | .tuple _, _, n, h => by
    rw [noLst] at n
    cases h with
    | tup a b => exact .tup (msk_t hd a) (dps_msk hd n b)
  | .dict _, _, _, h => by cases h
theorem dps_msk (hd : Dr H p q) : ∀ {ds : List Dt} {vs : List V}, noLsts ds = true → DpAll K H vs ds → DpAll K (msk p q H) vs ds
  | [], _, _, h => by cases h; exact .nil
  | _ :: _, _, n, h => by
    rw [noLsts, Bool.and_eq_true] at n
    cases h with
    | cons a b => exact .cons (dp_msk hd n.1 a) (dps_msk hd n.2 b)
end
/-- a reading that draws and gives a scalar -/
def Zv (M : Hp) (p q : Addr) (t : TE) (σ : L2.St) (φ : V → Prop) : Prop := ∀ H, Md M p q H → ∀ Q : VK, (∀ v H2, φ v → Md M p q H2 → Q v H2) → t σ H Q
abbrev isI (φ : Int → Prop) : V → Prop := fun v => ∃ n, v = .int n ∧ φ n
theorem zv_to (h : Zv M p q te σ φ) (k : ∀ v, φ v → ψ v) : Zv M p q te σ ψ := fun H hm Q x => h H hm Q fun v H2 hv => x v H2 (k v hv)
theorem zi_pure {n : Int} (h : Yd K te σ M (.int n)) : Zv M p q te σ (isI fun m => m = n) := fun H hm Q x => h H hm.ex Q fun v H2 e2 p2 => x v H2 ⟨n, dp_int p2, rfl⟩ (hm.step e2)
theorem zi_op {R : R2} {α β : Int → Prop} {f : Int → Int → Int} (h1 : Zv M p q te σ (isI α)) (h2 : Zv M p q tu σ (isI β)) (hr : ∀ a b, α a → β b → Rd2 K R (.int a) (.int b) (.int (f a b))) : Zv M p q (tOp R te tu) σ (isI fun c => ∃ a b, α a ∧ β b ∧ c = f a b) := fun H hm Q x =>
  h1 H hm _ fun v H2 ⟨a, ea, pa⟩ m2 => h2 H2 m2 _ fun u H3 ⟨b, eb, pb⟩ m3 => by
    subst ea eb
    exact hr a b pa pb _ _ H3 Q (.int _) (.int _) fun v' H4 e4 p4 => x v' H4 ⟨_, dp_int p4, a, b, pa, pb, rfl⟩ (m3.step e4)
theorem z_if {b : Bool} (h : Yt t σ M b) (h1 : b = true → Zv M p q ta σ φ) (h2 : b = false → Zv M p q tb σ φ) : Zv M p q (tIf t ta tb) σ φ := fun H hm Q x => h H hm.ex _ fun H2 e2 => by
  cases b with
  | true => exact h1 rfl H2 (hm.step e2) Q x
  | false => exact h2 rfl H2 (hm.step e2) Q x
theorem zi_draw {E : XK} {α : Int → Prop} (hσ : σ[i]? = some (some (.ref p))) (h : Zv M p q tu σ (isI α)) (ha : ∀ n, α n → 0 < n ∧ n ≤ 1000001) : Zv M p q (tCall spDraw [] E (tCons (tVar i) (tCons tu tNil))) σ (isI fun r => ∃ n, α n ∧ 0 ≤ r ∧ r < n) := fun H hm Q x =>
  ⟨.ref p, hσ, h H hm _ fun v H2 ⟨n, en, hn⟩ m2 => by
    subst en
    exact ⟨p, q, n, rfl, (ha n hn).1, (ha n hn).2, m2.dr, fun r H3 h0 h1 e3 d3 => x _ H3 ⟨r, rfl, n, hn, h0, h1⟩ (m2.next e3 d3)⟩⟩
theorem zv_pick {E : XK} (hσ : σ[i]? = some (some (.ref p))) (h : Yn K tl σ M ds) (hne : ds ≠ []) (hl : ds.length ≤ 1000) : Zv M p q (tCall (spPick K) [] E (tCons (tVar i) (tCons tl tNil))) σ (fun v => ∃ d H', d ∈ ds ∧ Dp K H' v d) := fun H hm Q x =>
  ⟨.ref p, hσ, h H hm.ex _ fun l xs H2 hl0 e2 h2 d2 => by
    obtain ⟨_, c, ns, h3, h4, _⟩ := hm.dr
    refine ⟨p, q, l, xs, rfl, hm.dr.ex e2, msk_l h2 (fun z => by rw [z, h3] at hl0; cases hl0) (fun z => by rw [z, h4] at hl0; cases hl0), fun z => ?_, by rw [dps_len d2]; exact hl, fun y H3 hy e3 d3 => ?_⟩
    · rw [z] at d2
      exact hne (List.length_eq_zero_iff.mp (dps_len d2).symm)
    · obtain ⟨j, hj⟩ := List.mem_iff_getElem?.mp hy
      obtain ⟨d, h5, h6⟩ := dps_at d2 hj
      exact x _ H3 ⟨d, H2, List.mem_of_getElem? h5, h6⟩ ((hm.step e2).next e3 d3)⟩
theorem zi_pick {E : XK} {ns : List Int} (hσ : σ[i]? = some (some (.ref p))) (h : Yn K tl σ M (ns.map .int)) (hne : ns ≠ []) (hl : ns.length ≤ 1000) : Zv M p q (tCall (spPick K) [] E (tCons (tVar i) (tCons tl tNil))) σ (isI fun r => r ∈ ns) :=
  zv_to (zv_pick hσ h (fun z => hne (List.map_eq_nil_iff.mp z)) (by rw [List.length_map]; exact hl)) fun v ⟨d, H', hd, hp⟩ => by
    obtain ⟨n, hn, rfl⟩ := List.mem_map.mp hd
    exact ⟨n, dp_int hp, hn⟩
theorem zs_pick {E : XK} {ns : List Str} (hσ : σ[i]? = some (some (.ref p))) (h : Yn K tl σ M (ns.map .str)) (hne : ns ≠ []) (hl : ns.length ≤ 1000) : Zv M p q (tCall (spPick K) [] E (tCons (tVar i) (tCons tl tNil))) σ (fun v => ∃ s, v = .str s ∧ s ∈ ns) :=
  zv_to (zv_pick hσ h (fun z => hne (List.map_eq_nil_iff.mp z)) (by rw [List.length_map]; exact hl)) fun v ⟨d, H', hd, hp⟩ => by
    obtain ⟨n, hn, rfl⟩ := List.mem_map.mp hd
    exact ⟨n, dp_str hp, hn⟩
theorem q_asg (hm : Md M p q H) (h : Zv M p q te σ φ) (k : ∀ v H2, φ v → Md M p q H2 → tz D (σ.set i (some v)) H2) : tSeq (tAsg te (gName i)) tz D σ H := h H hm _ k
theorem q_int {α : Int → Prop} (hm : Md M p q H) (h : Zv M p q te σ (isI α)) (k : ∀ n H2, α n → Md M p q H2 → tz D (σ.set i (some (.int n))) H2) : tSeq (tAsg te (gName i)) tz D σ H := h H hm _ fun v H2 ⟨n, e, hn⟩ m2 => by
  subst e
  exact k n H2 hn m2
theorem q_par (hm : Md M p q H) (h : Zv M p q te σ φ) (h' : Zv M p q tu σ ψ) (k : ∀ v w H2, φ v → ψ w → Md M p q H2 → tz D ((σ.set i (some v)).set j (some w)) H2) : tSeq (tPar i j (tCons te (tCons tu tNil))) tz D σ H :=
  h H hm _ fun v H2 hv m2 => h' H2 m2 _ fun w H3 hw m3 => ⟨v, w, rfl, k v w H3 hv hw m3⟩
end
end Wc
namespace Wc
open PySem PySem.Spec PyProof.Rows L2
/-! ### a list that grows -/
/-- the list at p holds ds -/
def Acc (K : Fg) (H : Hp) (p : Addr) (ds : List Dt) : Prop := ∃ xs, H p = some (.lst xs) ∧ DpAll K H xs ds
/-- all but p stays -/
def Exo (p : Addr) (H H' : Hp) : Prop := ∀ a o, a ≠ p → H a = some o → H' a = some o
section
variable {K : Fg} {σ : L2.St} {H H' H2 B : Hp} {te : TE} {d e : Dt} {ds : List Dt} {p q : Addr} {D : Ends} {tz : TS} {i : Nat}
theorem Acc.dp (h : Acc K H p ds) : Dp K H (.ref p) (.list ds) := by
  obtain ⟨xs, h1, h2⟩ := h
  exact .lst (SqL.of h1) h2
theorem Acc.ex (e : Ex H H') (h : Acc K H p ds) : Acc K H' p ds := by
  obtain ⟨xs, h1, h2⟩ := h
  exact ⟨xs, e _ _ h1, dps_ex e h2⟩
theorem Exo.trans (a : Exo p H H') (b : Exo p H' H2) : Exo p H H2 := fun x o n h => b x o n (a x o n h)
theorem Exo.of (a : Ex H H') : Exo p H H' := fun x o _ h => a x o h
theorem Exo.out (a : Exo p H H') (b : Ex B H) (h : B p = none) : Ex B H' := fun x o hx => a x o (fun z => by rw [z, h] at hx; cases hx) (b x o hx)
theorem tyv_l {xs : List V} (h : H p = some (.lst xs)) : tyV K "list" (.ref p) H := .inl ⟨rfl, xs, SqL.of h⟩
theorem exo_upd {o : HO} : Exo p H (upd H p o) := fun a u n h => by rw [upd_ne n]; exact h
theorem ap_te {l : TE} {Q : VK} (hx : σ[i]? = some (some (.ref p))) (ha : Acc K H p ds) (n : noLsts ds = true) (he : Yd K te σ H d) (nd : noLst d = true) (hl : ds.length < 100000)
    (k : ∀ H1, Exo p H H1 → Lx H H1 → Acc K H1 p (ds ++ [d]) → Q .non H1) : tBM K "list" rAppend (tVar i) (tCons te tNil) σ H Q := by
  obtain ⟨xs, h1, h2⟩ := ha
  refine ⟨.ref p, hx, tyv_l h1, he H ex_rfl _ fun v H1 e1 p1 => ?_⟩
  refine ⟨p, xs, v, rfl, rfl, e1 _ _ h1, Evl.sz_lt (by rw [dps_len h2]; exact hl), ?_⟩
  have lx : Lx H1 (upd H1 p (.lst (xs ++ [v]))) := Lx.upd (e1 _ _ h1)
  exact k _ ((Exo.of e1).trans exo_upd) ((Lx.of_ex e1).trans lx) ⟨_, upd_same, dps_app (dps_lx lx n (dps_ex e1 h2)) (.cons (dp_lx lx nd p1) .nil)⟩
theorem g_app (hx : σ[i]? = some (some (.ref p))) (ha : Acc K H p ds) (n : noLsts ds = true) (he : Yd K te σ H d) (nd : noLst d = true) (hl : ds.length < 100000)
    (k : ∀ H1, Exo p H H1 → Lx H H1 → Acc K H1 p (ds ++ [d]) → tz D σ H1) : tSeq (tDrop (tBM K "list" rAppend (tVar i) (tCons te tNil))) tz D σ H := ap_te (l := te) hx ha n he nd hl k
theorem z_app (hx : σ[i]? = some (some (.ref p))) (ha : Acc K H p ds) (n : noLsts ds = true) (he : Yd K te σ H d) (nd : noLst d = true) (hl : ds.length < 100000)
    (k : ∀ H1, Exo p H H1 → Lx H H1 → Acc K H1 p (ds ++ [d]) → D.nx σ H1) : tDrop (tBM K "list" rAppend (tVar i) (tCons te tNil)) D σ H := ap_te (l := te) hx ha n he nd hl k
theorem a_par3n {ta : TA} {j l : Nat} (h : Yn K te σ H ds) (h2 : Ya K ta σ H [d, e]) (k : ∀ p v w H1, H p = none → Ex H H1 → Acc K H1 p ds → Dp K H1 v d → Dp K H1 w e → tz D (((σ.set i (some (.ref p))).set j (some v)).set l (some w)) H1) : tSeq (tPar3 i j l (tCons te ta)) tz D σ H :=
  h H ex_rfl _ fun p xs H1 hp e1 h1 d1 => h2 H1 e1 _ fun vs H2 e2 p2 => by
    obtain ⟨v, r, rfl, q1, q2⟩ := dps_cons p2
    obtain ⟨w, r2, rfl, q3, q4⟩ := dps_cons q2
    obtain rfl := dps_nil q4
    exact ⟨_, v, w, rfl, k p v w H2 hp (e1.trans e2) (Acc.ex e2 ⟨xs, h1, d1⟩) q1 q3⟩
theorem a_acc (h : Yn K te σ H ds) (k : ∀ p H1, H p = none → Ex H H1 → Acc K H1 p ds → tz D (σ.set i (some (.ref p))) H1) : tSeq (tAsg te (gName i)) tz D σ H := h H ex_rfl _ fun p xs H1 hp e1 h1 d1 => k p H1 hp e1 ⟨xs, h1, d1⟩
theorem rd_eqB {a b : Bool} : Rd2 K (rEqD K) (.bool a) (.bool b) (.bool (decide (a = b))) := fun v u H Q p q k => rd_eqD shp_bl shp_bl v u H Q p q fun v' H2 e2 h => k v' H2 e2 (by
  have : PyData.eqv (.bool a) (.bool b) = decide (a = b) := by rw [PyData.eqv]; exact Bool.beq_eq_decide_eq a b
  rw [← this]; exact h)
theorem rd_neB {a b : Bool} : Rd2 K (rNeD K) (.bool a) (.bool b) (.bool (decide (a ≠ b))) := fun v u H Q p q k => rd_neD shp_bl shp_bl v u H Q p q fun v' H2 e2 h => k v' H2 e2 (by
  have : (!PyData.eqv (.bool a) (.bool b)) = decide (a ≠ b) := by rw [PyData.eqv, Bool.beq_eq_decide_eq]; exact decide_not.symm
  rw [← this]; exact h)
end
end Wc
namespace Wc
open PySem PySem.Spec PyProof.Rows L2
section
variable {K : Fg} {σ : L2.St} {H : Hp} {te : TE} {n : Nat} {f : Nat → Dt} {ds : List Dt}
theorem Src.cast {J : It} {m : Nat} {g : Nat → Dt} (h : Src K J H m g) (e : m = n) (k : ∀ i, i < n → g i = f i) : Src K J H n f := by
  subst e
  exact ⟨h.go, fun i H x H' hi eH y => by
    rw [← k i hi]
    exact h.yld i H x H' hi eH y, h.stop⟩
theorem Yi.cast {wi : TI} {m : Nat} {g : Nat → Dt} (h : Yi K wi σ H m g) (e : m = n) (k : ∀ i, i < n → g i = f i) : Yi K wi σ H n f := fun H1 x R q => h H1 x R fun J H2 e2 S => q J H2 e2 (S.cast e k)
theorem atD_range {i : Nat} (h : i < n) : atD ((List.range n).map f) i = f i := by
  have := atD_get (ds := (List.range n).map f) (i := i) (by rw [List.length_map, List.length_range]; exact h)
  rw [List.getElem?_map, List.getElem?_range h] at this
  exact (Option.some.inj this).symm
theorem yi_listR (h : Yd K te σ H (.list ((List.range n).map f))) : Yi K (iList K te) σ H n f := (yi_list h).cast (by rw [List.length_map, List.length_range]) fun i hi => atD_range hi
/-- how many are kept -/
theorem kept_count {n : Nat} {f : Nat → Bool} {g : Nat → Dt} : (kept n f g).length = (List.range n).countP f := by
  unfold kept
  rw [List.length_map, List.countP_eq_length_filter]
theorem count_mod (w : Nat) (h : 0 < w) : ∀ k, (List.range (k * w)).countP (fun i => decide (i % w = 0)) = k
  | 0 => by simp
  | k + 1 => by
    have ih := count_mod w h k
    have e : (k + 1) * w = k * w + w := Nat.succ_mul k w
    rw [e, List.range_add, List.countP_append, ih, List.countP_map]
    have : List.countP ((fun i => decide (i % w = 0)) ∘ fun x => k * w + x) (List.range w) = 1 := by
      obtain ⟨v, rfl⟩ : ∃ v, w = v + 1 := ⟨w - 1, by omega⟩
      rw [List.range_succ_eq_map, List.countP_cons, List.countP_map]
      have z : List.countP (((fun i => decide (i % (v + 1) = 0)) ∘ fun x => k * (v + 1) + x) ∘ Nat.succ) (List.range v) = 0 := by
        rw [List.countP_eq_zero]
        intro x hx
        have hx' := List.mem_range.mp hx
        simp only [Function.comp_apply, decide_eq_true_eq]
        rw [Nat.mul_add_mod_self_right, Nat.mod_eq_of_lt (by omega)]
        omega
      rw [z]
      simp
    rw [this]
end
end Wc
namespace Wc
open PySem PySem.Spec PyProof.Rows L2
theorem op_eqK {X : Cx} {K : Fg} (hu : X.A.units + 64 < cLine) (hK : X.K = K := by rfl) : OpR X (compareOp .Eq) (rEqD K) := by
  subst hK
  exact op_eqD hu
theorem op_neK {X : Cx} {K : Fg} (hu : X.A.units + 64 < cLine) (hK : X.K = K := by rfl) : OpR X (compareOp .NotEq) (rNeD K) := by
  subst hK
  exact op_neD hu
theorem pg_tupK {X : Cx} {K : Fg} {n : Nat} {es : List Expr} {k : Nat} {pos : Pos} {t : TGs} (hK : X.K = K) (hc : X.calm = true) (h : PGs X es t)
    (hn : (assignEach es X.env).length = n := by rfl) (hst : (assignEach es X.env).findIdx? (·.1) = none := by rfl) : PG X (.Tuple es k pos) (gTup K n t) := by
  subst hK
  exact pg_tup hc h hn hst
theorem ix_seqK {X : Cx} {K : Fg} (hK : X.K = K) : IxR X (rIx K) := by
  subst hK
  exact ix_seq
theorem op_inK {X : Cx} {K : Fg} (hK : X.K = K) : OpR X (compareOp .In) (rIn K false) := by
  subst hK
  exact op_in_seq
theorem op_niK {X : Cx} {K : Fg} (hK : X.K = K) : OpR X (compareOp .NotIn) (rIn K true) := by
  subst hK
  exact op_notIn_seq
theorem call_lenK {X : Cx} {K : Fg} (hK : X.K = K) : CallR X (.builtin "len") (fun xs H Q => ∃ x n, xs = [x] ∧ LenV K x H n ∧ Q (.int n) H) := by
  subst hK
  exact call_len
theorem call_isiK {X : Cx} {K : Fg} (hK : X.K = K) : CallR X (.builtin "isinstance") (rIsi K) := by
  subst hK
  exact call_isi
end Wc
namespace Wc
open PySem PySem.Spec PyProof.Rows L2
section
variable {K : Fg} {σ : L2.St} {H : Hp} {ta : TA} {te : TE} {tb tz : TS} {D : Ends} {j : Nat}
/-- for name in range(m), something behind -/
theorem f_rng1 {m : Int} (ha : Ya K ta σ H [.int m]) (hm : m ≤ 10000000 ∧ -10000000 ≤ m) (Pv : Nat → L2.St → Hp → Prop) (h0 : ∀ H1, Ex H H1 → Pv 0 σ H1)
    (hs : ∀ (i : Nat) σ' H', (i : Int) < m → Pv i σ' H' → tb { D with nx := Pv (i + 1), ct := Pv (i + 1), bk := tz D } (σ'.set j (some (.int (i : Int)))) H') (hd : ∀ σ' H', Pv m.toNat σ' H' → tz D σ' H') : tSeq (tFor (iRng1 ta) (gName j) tb) tz D σ H :=
  ha H ex_rfl _ fun vs H1 e1 p => by
    obtain ⟨v, r, rfl, h1, h2⟩ := dps_cons p
    obtain rfl := dps_nil h2
    obtain rfl := dp_int h1
    refine ⟨m, rfl, by omega, by omega, ?_⟩
    exact for_range (D := { D with nx := tz D }) Pv (h0 H1 e1) (fun i σ' H' hi pv => by
      have e : (0 : Int) + (i : Int) = i := Int.zero_add _
      rw [e]
      exact hs i σ' H' (by omega) pv) hd
/-- .. in range(l, m) -/
theorem f_rng2 {l m : Int} (ha : Ya K ta σ H [.int l, .int m]) (hl : l ≤ 10000000 ∧ -10000000 ≤ l) (hm : m ≤ 10000000 ∧ -10000000 ≤ m) (Pv : Nat → L2.St → Hp → Prop) (h0 : ∀ H1, Ex H H1 → Pv 0 σ H1)
    (hs : ∀ (i : Nat) σ' H', l + (i : Int) < m → Pv i σ' H' → tb { D with nx := Pv (i + 1), ct := Pv (i + 1), bk := tz D } (σ'.set j (some (.int (l + (i : Int))))) H') (hd : ∀ σ' H', Pv (m - l).toNat σ' H' → tz D σ' H') : tSeq (tFor (iRng2 ta) (gName j) tb) tz D σ H :=
  ha H ex_rfl _ fun vs H1 e1 p => by
    obtain ⟨v, r, rfl, h1, h2⟩ := dps_cons p
    obtain ⟨v', r', rfl, h3, h4⟩ := dps_cons h2
    obtain rfl := dps_nil h4
    obtain rfl := dp_int h1
    obtain rfl := dp_int h3
    refine ⟨l, m, rfl, by omega, ?_⟩
    exact for_range (D := { D with nx := tz D }) Pv (h0 H1 e1) (fun i σ' H' hi pv => hs i σ' H' (by omega) pv) hd
/-- for name in a list that stays -/
theorem f_lst {ds : List Dt} (h : Yd K te σ H (.list ds)) (Pv : Nat → L2.St → Hp → Prop) (h0 : ∀ H1, Ex H H1 → Pv 0 σ H1)
    (hk : ∀ a xs H1, Ex H H1 → SqL K H1 a xs → DpAll K H1 xs ds → ∀ i σ' H', i ≤ ds.length → Pv i σ' H' → SqL K H' a xs ∧ DpAll K H' xs ds)
    (hs : ∀ i d x σ' H', ds[i]? = some d → Dp K H' x d → Pv i σ' H' → tb { D with nx := Pv (i + 1), ct := Pv (i + 1), bk := tz D } (σ'.set j (some x)) H') (hd : ∀ σ' H', Pv ds.length σ' H' → tz D σ' H') : tSeq (tFor (iList K te) (gName j) tb) tz D σ H :=
  h H ex_rfl _ fun v H1 e1 p => by
    obtain ⟨a, xs, rfl, h1, h2⟩ := dp_lst p
    have hl := dps_len h2
    refine ⟨a, rfl, ⟨xs, h1⟩, ?_⟩
    refine for_list (D := { D with nx := tz D }) Pv (h0 H1 e1) (fun i σ' H' hi pv => (hk a xs H1 e1 h1 h2 i σ' H' (by omega) pv).1) (fun i x σ' H' hx pv => ?_) (by rw [hl]; exact hd)
    have hi : i < xs.length := (List.getElem?_eq_some_iff.mp hx).1
    obtain ⟨d, q1, q2⟩ := dps_at (hk a xs H1 e1 h1 h2 i σ' H' (by omega) pv).2 hx
    exact hs i d x σ' H' q1 q2 pv
end
end Wc

/-! For the head. -/
namespace Wc
open PySem PySem.Spec PyProof.Rows L2
section
variable {P : Program} {w : World} {K : Fg} {mg : Str → Option Value} {base : Heap}
/-- the def with its function object told -/
structure DfA (K : Fg) (mg : Str → Option Value) (x : Str) (st : Stmt) (f : Addr) (fd : FuncData) : Prop where
  F : FunD K x x (defArgs st) (defBody st) (defScope st) [] [] f fd
theorem DfA.cal {x : Str} {st : Stmt} {N ps : List Str} {k : Nat} {sp : Sp} {f0 : Addr} {fd0 : FuncData} (F : DfA K mg x st f0 fd0) (S : FnScope N ps (defScope st))
    (hbi : ∀ (kV doc pm : Value) (an : Option Addr) (cdv ct : Value) (us : List Value), us.length = ps.length → bindArgs (PySem.W.fnOf x x (defArgs st) (defBody st) (defScope st) .none kV doc pm an cdv ct) ⟨us, []⟩ = pure (ps.zip us))
    (len : ∀ vs H Q E, sp vs H Q E → vs.length = ps.length)
    (hbody : ∀ (f : Addr) (cdv : Value) (A : Around) (outer : List Env) (s : Shared) (H : Hp) (vs : List V) (Q : VK) (E : XK), Room k (A.deeper (envOfC x (defScope st) s.heap.objs.size f cdv)) → sp vs H Q E →
      ∃ t, PSs (cxOf (L2.CX P w) P w K mg base N x (defScope st) f cdv A outer s H E) (defBody st) t ∧ t { nx := fun _ H' => Q .non H', rt := Q } (start N vs) H) : FnOk P w K mg base (L2.CX P w) (k + 1) f0 fd0 ps sp :=
  F.F.ok S len fun cdv A outer s H vs Q E hr h => hbody f0 cdv A outer s H vs Q E hr h
theorem fnok_any {k : Nat} {f : Addr} {fd : FuncData} {ps : List Str} {sp : Sp} (F : FnOk P w K mg base (L2.CX P w) k f fd ps sp) : FnOk P w K mg base (fun o H s E u s' => ∃ P w, L2.CX P w o H s E u s') k f fd ps sp :=
  ⟨F.len, fun A outer s H args us vs Q E hr he hb hv hs => PySem.codeAny_mono (F.run A outer s H args us vs Q E hr he hb hv hs) fun r s' h => by
    match r, h with
    | .ok (.ret u), h => exact h
    | .error e, h => exact ⟨P, w, h⟩⟩
end
end Wc

/-! Sets of ints out of lists of any length: sorted, counted. -/
namespace Wc
open PySem PySem.Spec PyProof.Rows L2
/-- a set just made -/
abbrev nwS (w : World) : Obj := { cls := .type "set", dict := none, data := .set #[] 0 (.fresh 0 0 (!w.params.followText "set-order")) }
section
variable {P : Program} {w : World} {A : Around} {E : Value → Shared → Prop} {s : Shared}
set_option maxRecDepth 100000 in
theorem setOfList {l : Addr} {xs : Array Value} (ns : List Int) {Q : Value → Shared → Prop} (hA : A.handled = none) (hl : s.heap.IsList l xs) (hx : IntsAre xs.toList ns) (hz : ns.length + 1 < scanBound)
    (k : ∀ (g : Heap) (tk c : Nat), SetR w g s.heap.objs.size (fun j => decide (j ∈ ns)) c → c ≤ ns.length → (∀ b o, s.heap.get? b = some o → g.get? b = some o) → Q (.ref s.heap.objs.size) { s with heap := g, toks := tk }) :
    wpAny (model P w) A (call (.type "set") [.ref l]) Q E s := by
  have xl : xs.size = ns.length := (Array.length_toList (xs := xs)).symm.trans (IntsAre.length hx)
  obtain ⟨c0, tl, m1⟩ := F.called_set.mro
  have m2 := F.called_set.made
  have m3 := F.called_set.sub
  refine wpAny_call (codeAny_of_tree ?_)
  show wpAny _ _ (callAny (.type "set") _) _ _ _
  refine wpAny_pure ⟨Code.quiet_builtin _ (by decide +kernel), codeAny_builtin F.entry_type_call ?_⟩
  rw [Around.under_plain (weight_type_call_type "set" [.ref l] []) rfl]
  have m4 := F.called_set.notType
  have m5 := F.called_set.canCreate
  have m6 := F.typeCall_set_1 (.ref l)
  repeat (any_goals (first | assumption | wp_step))
  have hS : (s.heap.push (nwS w)).get? s.heap.objs.size = some (nwS w) := Heap.get?_push_size _ rfl
  refine codeAny_mono (code_set_led1 (.ref l) (E := E) (Q₁ := fun u z => u = .ref s.heap.objs.size ∧ z = { s with heap := s.heap.push (nwS w) }) ⟨rfl, rfl⟩) fun r z hr => ?_
  match r, hr with
  | .error e, hr => exact hr
  | .ok .next, hr => exact hr.elim
  | .ok .brk, hr => exact hr.elim
  | .ok .cont, hr => exact hr.elim
  | .ok (.ret u), hr =>
    obtain ⟨rfl, rfl⟩ := hr
    have hT : Shared.TypeIs { s with heap := s.heap.push (nwS w) } (.ref s.heap.objs.size) "set" := ⟨_, hS, rfl⟩
    have m7 := F.called_set.init.lookup
    have m8 := F.called_set.init.bind (.ref s.heap.objs.size)
    repeat (any_goals (first | assumption | wp_step))
    refine codeAny_mono (codeAny_call_builtin (R := wants (fun u z => u = .none ∧ ∃ g tk c, z = { s with heap := g, toks := tk } ∧ SetR w g s.heap.objs.size (fun j => decide (j ∈ ns)) c ∧ c ≤ ns.length ∧
        (∀ b o, s.heap.get? b = some o → g.get? b = some o)) E) F.called_set.init.plain F.entry_set_init (check_set_init_1 hT ?_)) fun r2 z2 hr2 => ?_
    · obtain ⟨⟨oc, od, dt, osl⟩, h1, h2, n, h3⟩ := hl
      simp only at h2 h3
      subst h2 h3
      have g1 : (s.heap.push (nwS w)).get? l = some { cls := .type "list", dict := od, data := .seq xs n, slots := osl } := Heap.get?_push_of_some _ h1
      have m9 := F.sub_list_set
      have m10 := F.sub_list_frozenset
      have m11 : (Value.type "list" == Value.type "dict") = false := by decide
      have hl1 : (s.heap.push (nwS w)).IsList l xs := ⟨_, g1, rfl, n, rfl⟩
      unfold Builtin.«set.__init__» noKeywords Builtin.Frozenset.updateFrom
      generalize hG : pyIter = G
      wp_walk
      subst hG
      refine wpAny_pyIter_list hl1 ?_
      refine wpAny_bind (wpAny_runValue ?_)
      have lt : l < s.heap.objs.size := Heap.lt_size h1
      have sz : (s.heap.push (nwS w)).objs.size = s.heap.objs.size + 1 := Heap.size_push ..
      have ne1 : l ≠ (s.heap.push (nwS w)).objs.size := by rw [sz]; exact Nat.ne_of_lt (Nat.lt_succ_of_lt lt)
      have nf : s.heap.objs.size ∉ [(s.heap.push (nwS w)).objs.size, l] := fun z => by
        rcases List.mem_cons.mp z with z | z
        · rw [sz] at z
          exact Nat.ne_of_lt (Nat.lt_succ_self _) z
        · exact Nat.ne_of_gt lt (List.mem_singleton.mp z)
      have hv : ∀ (i : Nat) (v : Value), xs[i]? = some v → ∃ k t, ns[i]? = some k ∧ v = .int k t := fun i v e => by
        obtain ⟨t, e2⟩ := PyProof.Rows.IntsAre.int_at hx i v (by rw [Array.getElem?_toList]; exact e)
        have hi : i < ns.length := xl ▸ (Array.getElem?_eq_some_iff.mp e).1
        exact ⟨ns[i], t, List.getElem?_eq_getElem hi, by rw [e2, List.getD_eq_getElem?_getD, List.getElem?_eq_getElem hi] <;> rfl⟩
      refine set_update_ints ((Walks.list (show A.in1.in1.in1.handled = none by simp [hA]) _ l ne1 xs).toS) s.heap.objs.size nf ns xl hz hv (xs.size - 0) 0 _ (by omega) (Nat.zero_le _) ⟨⟨_, Heap.get?_push_size _ rfl, rfl, rfl⟩, (hl1.push _)⟩ ⟨0, Nat.le_refl 0, setR_new_at (Heap.get?_push_of_some _ hS)⟩ ?_
      rintro ⟨g, gs, dr, tk, os⟩ c mv hc hR
      obtain rfl : gs = s.gens := mv.gens
      obtain rfl : dr = s.drawn := mv.drawn
      obtain rfl : os = s.os := mv.os
      show wpAny _ _ _ _ _ _
      refine wpAny_pure ?_
      show wpAny _ _ (ret Value.none) _ _ _
      rw [xl] at hc
      refine wpAny_pure ⟨rfl, g, tk, c, rfl, hR, hc, fun b o e => mv.heap b o (fun z => ?_) (Heap.get?_push_of_some _ (Heap.get?_push_of_some _ e))⟩
      have bl : b < s.heap.objs.size := Heap.lt_size e
      rcases List.mem_cons.mp z with z | z
      · exact Nat.ne_of_lt bl z
      · have z2 := List.mem_singleton.mp z
        rw [sz] at z2
        exact Nat.ne_of_lt (Nat.lt_succ_of_lt bl) z2
    · match r2, hr2 with
      | .error e, hr2 => exact hr2
      | .ok .next, hr2 => exact hr2.elim
      | .ok .brk, hr2 => exact hr2.elim
      | .ok .cont, hr2 => exact hr2.elim
      | .ok (.ret u), hr2 =>
        obtain ⟨rfl, g, tk, c, rfl, q1, q2, q3⟩ := hr2
        repeat (any_goals (first | assumption | wp_step))
        exact k _ _ _ q1 q2 q3
/-- sorted(a set of ints), any number of them -/
theorem sortedOfSet {a : Addr} {S : Int → Bool} {n : Nat} {Q : Value → Shared → Prop} (R : SetR w s.heap a S n) (hA : A.handled = none) (hn : n ≤ sizeLine)
    (k : ∀ z p (out : List Value) (c : Nat) (ns : List Int), (∀ b o, s.heap.get? b = some o → z.heap.get? b = some o) → z.gens = s.gens → z.os = s.os → s.heap.objs.size ≤ p →
      z.heap.get? p = some (seqObj "list" out.toArray c) → IntsAre out ns → ns.Pairwise (· < ·) → (∀ j, j ∈ ns ↔ S j = true) → ns.length = n → Q (.ref p) z) :
    wpAny (model P w) A (call (.builtin "sorted") [.ref a]) Q E s := by
  obtain ⟨o, es, ep, t, q1, q2, q3, q4, q5, q6, q7, q8, q9, q10, q11⟩ := R
  refine Calls.call_function_entry kind_sorted plain_sorted entry_sorted (args_sorted1 _) ?_
  unfold Builtin.«sorted»
  refine wpAny_bind (m := checkCount "sorted" 1 1 _) (wpAny_pure ?_)
  refine wpAny_bind (collect_set (A := A.in1) hA ⟨o, q1, q2.1, q3⟩ q8 q7 q10 q11 fun s1 vs k1 hz hg ho pm => ?_)
  have vl : vs.length = n := (pm.length_eq.trans (by rw [List.length_map, Array.length_toList])).trans q9
  have hI : IntsAre vs (vs.map Builtin.Re.reRawOf) := ints_of vs fun v hv => by
    obtain ⟨e, he, r⟩ := List.mem_map.mp (pm.mem_iff.mp hv)
    obtain ⟨j, tk, h1, _⟩ := q4 e he
    exact ⟨j, tk, r ▸ h1⟩
  have pk : (vs.map Builtin.Re.reRawOf).Perm (es.toList.map keyOf) := by
    have z := pm.map Builtin.Re.reRawOf
    rwa [List.map_map] at z
  refine wpAny_bind (wpAny_newList ?_ (by rw [vl]; exact hn))
  have hL : (s1.heap.push (seqObj "list" vs.toArray 0)).get? s1.heap.objs.size = some (seqObj "list" vs.toArray 0) := Heap.get?_push_size _ rfl
  refine wpAny_bind (wpAny_holding (wpAny_call_entry slot_list_sort ⟨_, hL, rfl⟩ entry_list_sort (SrtO.list_sort_ord SrtO.swo_int hL (by rw [vl]; exact hn) (fun h2 => SrtO.ints_sortable hI h2) fun out h1 h2 => ⟨_, rfl, ?_⟩) (args_list_sort _)))
  obtain ⟨p1, p2, p3⟩ := SrtO.ints_out hI h1 h2
  obtain ⟨c, hc⟩ := sortedHeap_at (vs := vs) (out := out.toArray) hL
  have pn : (out.map SrtO.iv).Perm (es.toList.map keyOf) := p2.trans pk
  refine wpAny_pure ⟨_, rfl, k _ s1.heap.objs.size out c (out.map SrtO.iv) (fun b u e => ?_) hg ho hz hc p1 (lt_of_le_nodup _ p3 (pn.nodup_iff.mpr q5)) (fun j => by rw [pn.mem_iff, ← q6 j]) ?_⟩
  · have lt := Heap.lt_size (k1 b u e)
    show (sortedHeap (s1.heap.push (seqObj "list" vs.toArray 0)) s1.heap.objs.size vs out.toArray).get? b = some u
    rw [sortedHeap_old (Nat.ne_of_lt lt) (by rw [size_push']; exact Nat.lt_succ_of_lt lt)]
    exact Heap.get?_push_of_some _ (k1 b u e)
  · rw [pn.length_eq, List.length_map, Array.length_toList]
    exact q9
end
end Wc

/-! sorted(set(..)), len(set(..)), sorted(..) as readings over data. -/
namespace Wc
open PySem PySem.Spec PyProof.Rows L2
section
variable {X : Cx}
def tSortedSet (K : Fg) (ta : TE) : TE := fun σ H Q => ta σ H fun x H1 => ∃ (l : Addr) (ns : List Int), x = .ref l ∧ SqL K H1 l (ns.map V.int) ∧ ns.length ≤ 4000 ∧
  ∀ (ms : List Int) (p : Addr), ms.Pairwise (· < ·) → (∀ j, j ∈ ms ↔ j ∈ ns) → H1 p = none → Q (.ref p) (upd H1 p (.lst (ms.map V.int)))
def tLenSet (K : Fg) (ta : TE) : TE := fun σ H Q => ta σ H fun x H1 => ∃ (l : Addr) (ns : List Int), x = .ref l ∧ SqL K H1 l (ns.map V.int) ∧ ns.length ≤ 4000 ∧
  ∀ ms : List Int, ms.Nodup → (∀ j, j ∈ ms ↔ j ∈ ns) → Q (.int (ms.length : Nat)) H1
theorem pe_sortedSet {a : Expr} {ta : TE} {p p2 q pos : Pos} (hc : X.calm = true) (hg : Gl X "sorted") (hm : X.mg "sorted" = none) (hg2 : Gl X "set") (hm2 : X.mg "set" = none) (ha : PE X a ta)
    (na : starEach [a] X.env = (false, eval a X.env) :: starEach [] X.env := by rfl) : PE X (.Call (.Name "sorted" p) [.Call (.Name "set" p2) [a] [] q] [] pos) (tSortedSet X.K ta) := by
  refine ⟨fun pins s σ H Q I h => ?_⟩
  refine Call_ (ld_blt I hg hm PyProof.Rows.boot_sorted ?_)
  refine PyProof.Rows.callWith_builtin1 (PyProof.Rows.args_cons ?_ rfl) rfl rfl
  refine Call_ (ld_blt I hg2 hm2 PyProof.Rows.boot_set ?_)
  refine PyProof.Rows.callWith_type1 (PyProof.Rows.args_cons (thn (ha.run pins s σ H _ I h) fun v s1 ⟨x, H1, I1, r1, q1⟩ => PyProof.Rows.args_nil ?_) na) na rfl
  obtain ⟨l, ns, rfl, hq, hl, q1⟩ := q1
  cases r1
  obtain ⟨its, r, hp, hz⟩ := I1.list hq
  refine setOfList ns (I1.ok.hd hc) hp.isList (by simpa using r.ints) (by unfold scanBound; omega) fun g tk c R hcl hk => ?_
  have I2 : Inv X pins σ H1 { s1 with heap := g, toks := tk } := I1.kept hk
  refine PyProof.Rows.args_nil ?_
  refine sortedOfSet (s := { s1 with heap := g, toks := tk }) R (I2.ok.hd hc) (by rw [sizeLine_eq]; omega) fun z b out e ms k1 hgn hos hb ho hi hs hmm hln => ?_
  have hfr : H1 b = none := I2.hok.fresh hb
  have hle : (ms.map V.int).length ≤ sizeLine := by rw [List.length_map, hln, sizeLine_eq]; omega
  have J : Inv X pins σ (upd H1 b (.lst (ms.map V.int))) { s1 with heap := z.heap, gens := z.gens, drawn := z.drawn, toks := z.toks } :=
    Inv.call (s := { s1 with heap := g, toks := tk }) I2 (ch := []) (Un.laid k1 hb hfr) (I2.hok.laid k1 hb ⟨hle, out, e, vals_of_ints hi, ho⟩) (by rw [hgn]; exact I2.bare) (fun _ y => nomatch y)
  have ez : z = { s1 with heap := z.heap, gens := z.gens, drawn := z.drawn, toks := z.toks } := by
    cases z
    cases s1
    cases hos
    rfl
  rw [ez]
  exact ⟨.ref b, _, J, rfl, q1 ms b hs (fun j => (hmm j).trans decide_eq_true_iff) hfr⟩
theorem pe_lenSet {a : Expr} {ta : TE} {p p2 q pos : Pos} (hc : X.calm = true) (hg : Gl X "len") (hm : X.mg "len" = none) (hg2 : Gl X "set") (hm2 : X.mg "set" = none) (ha : PE X a ta)
    (na : starEach [a] X.env = (false, eval a X.env) :: starEach [] X.env := by rfl) : PE X (.Call (.Name "len" p) [.Call (.Name "set" p2) [a] [] q] [] pos) (tLenSet X.K ta) := by
  refine ⟨fun pins s σ H Q I h => ?_⟩
  refine Call_ (ld_blt I hg hm PySem.boot_len ?_)
  refine PyProof.Rows.callWith_builtin1 (PyProof.Rows.args_cons ?_ rfl) rfl rfl
  refine Call_ (ld_blt I hg2 hm2 PyProof.Rows.boot_set ?_)
  refine PyProof.Rows.callWith_type1 (PyProof.Rows.args_cons (thn (ha.run pins s σ H _ I h) fun v s1 ⟨x, H1, I1, r1, q1⟩ => PyProof.Rows.args_nil ?_) na) na rfl
  obtain ⟨l, ns, rfl, hq, hl, q1⟩ := q1
  cases r1
  obtain ⟨its, r, hp, hz⟩ := I1.list hq
  refine setOfList ns (I1.ok.hd hc) hp.isList (by simpa using r.ints) (by unfold scanBound; omega) fun g tk c R hcl hk => ?_
  have I2 : Inv X pins σ H1 { s1 with heap := g, toks := tk } := I1.kept hk
  refine PyProof.Rows.args_nil ?_
  obtain ⟨o, es, ep, t, z1, z2, z3, z4, z5, z6, z7, z8, z9, z10, z11⟩ := R
  refine call_len_set z1 z2 z3 z8 (by rw [z9] <;> omega) ⟨.int ((es.toList.map keyOf).length : Nat), H1, I2.tok _, ⟨_, by rw [List.length_map, Array.length_toList]⟩, q1 _ z5 fun j => ?_⟩
  rw [← z6 j]
  exact decide_eq_true_iff
end
section
variable {K : Fg} {σ : L2.St} {H : Hp} {te : TE} {ns ms : List Int}
/-- one list ascends strictly with these members -/
theorem asc_unique : ∀ {xs ys : List Int}, xs.Pairwise (· < ·) → ys.Pairwise (· < ·) → (∀ j, j ∈ xs ↔ j ∈ ys) → xs = ys
  | [], [], _, _, _ => rfl
  | [], y :: ys, _, _, h => by have := (h y).mpr List.mem_cons_self; cases this
  | x :: xs, [], _, _, h => by have := (h x).mp List.mem_cons_self; cases this
  | x :: xs, y :: ys, hx, hy, h => by
    obtain ⟨x1, x2⟩ := List.pairwise_cons.mp hx
    obtain ⟨y1, y2⟩ := List.pairwise_cons.mp hy
    have e : x = y := by
      rcases List.mem_cons.mp ((h x).mp List.mem_cons_self) with e | m
      · exact e
      · rcases List.mem_cons.mp ((h y).mpr List.mem_cons_self) with e | m'
        · exact e.symm
        · have := y1 x m
          have := x1 y m'
          omega
    subst e
    congr 1
    refine asc_unique x2 y2 fun j => ⟨fun m => ?_, fun m => ?_⟩
    · rcases List.mem_cons.mp ((h j).mp (List.mem_cons_of_mem _ m)) with e | m'
      · have := x1 j m
        omega
      · exact m'
    · rcases List.mem_cons.mp ((h j).mpr (List.mem_cons_of_mem _ m)) with e | m'
      · have := y1 j m
        omega
      · exact m'
theorem sorted_unique : ∀ {xs ys : List Int}, xs.Pairwise (· ≤ ·) → ys.Pairwise (· ≤ ·) → xs.Perm ys → xs = ys := fun hx hy p => p.eq_of_pairwise (fun a b _ _ h1 h2 => Int.le_antisymm h1 h2) hx hy
theorem yn_sortedSet (h : Yd K te σ H (.list (ns.map .int))) (hl : ns.length ≤ 4000) (h1 : ms.Pairwise (· < ·)) (h2 : ∀ j, j ∈ ms ↔ j ∈ ns) : Yn K (tSortedSet K te) σ H (ms.map .int) := fun H1 x Q q => h H1 x _ fun v H2 e2 p2 => by
  obtain ⟨a, xs, rfl, hs, hd⟩ := dp_lst p2
  obtain rfl := of_dps_ints hd
  refine ⟨a, ns, rfl, hs, hl, fun ms' p z1 z2 hp => ?_⟩
  obtain rfl := asc_unique z1 h1 fun j => (z2 j).trans (h2 j).symm
  exact q p _ _ (Evl.fresh_back e2 hp) (e2.trans (Evl.Ex.new hp)) upd_same (dps_ints _)
theorem nodup_len {xs ys : List Int} (h1 : xs.Nodup) (h2 : ys.Nodup) (h : ∀ j, j ∈ xs ↔ j ∈ ys) : xs.length = ys.length := ((List.perm_ext_iff_of_nodup h1 h2).mpr h).length_eq
theorem yd_lenSet (h : Yd K te σ H (.list (ns.map .int))) (hl : ns.length ≤ 4000) (h1 : ms.Nodup) (h2 : ∀ j, j ∈ ms ↔ j ∈ ns) : Yd K (tLenSet K te) σ H (.int (ms.length : Nat)) := fun H1 x Q q => h H1 x _ fun v H2 e2 p2 => by
  obtain ⟨a, xs, rfl, hs, hd⟩ := dp_lst p2
  obtain rfl := of_dps_ints hd
  refine ⟨a, ns, rfl, hs, hl, fun ms' z1 z2 => ?_⟩
  rw [nodup_len z1 h1 fun j => (z2 j).trans (h2 j).symm]
  exact q _ _ e2 (.int _)
theorem rn_sorted (h1 : ms.Pairwise (· ≤ ·)) (h2 : ms.Perm ns) : RnC K (rSortedI K) [.list (ns.map .int)] (ms.map .int) := fun vs H Q p k => by
  obtain ⟨v, r, rfl, q1, q2⟩ := dps_cons p
  obtain rfl := dps_nil q2
  obtain ⟨a, xs, rfl, hs, hd⟩ := dp_lst q1
  obtain rfl := of_dps_ints hd
  refine ⟨a, ns, rfl, hs, fun ns' b z1 z2 hb => ?_⟩
  obtain rfl := sorted_unique z2 h1 (z1.trans h2.symm)
  exact k b _ _ hb (Evl.Ex.new hb) upd_same (dps_ints _)
/-! ### in, index, ranges -/
theorem any_iff {ds : List Dt} {d : Dt} {b : Bool} (h : pls ds = true) (h' : pl d = true) (hb : b = true ↔ d ∈ ds) : ds.any (fun z => PyData.eqv z d) = b := by
  refine Bool.eq_iff_iff.mpr ?_
  rw [List.any_eq_true, hb]
  constructor
  · rintro ⟨z, m, e⟩
    have hz : pl z = true := by
      clear hb e
      induction ds with
      | nil => cases m
      | cons x r ih =>
        rw [pls, Bool.and_eq_true] at h
        rcases List.mem_cons.mp m with e | m
        · exact e ▸ h.1
        · exact ih h.2 m
    rwa [← (eqv_pl hz h').mp e]
  · intro m
    exact ⟨d, m, (eqv_pl h' h').mpr rfl⟩
theorem shp_list {ds : List Dt} {n : Nat} (h : pls ds = true) (hn : ∀ d ∈ ds, d.depth ≤ 60) : SeqAt.shaped (.list ds) = true := shp_pl (by rw [pl]; exact h) (by
  rw [PyData.depth]
  have := depth_mem hn
  omega)
theorem rd_inP {ds : List Dt} {d : Dt} {b : Bool} (h : pls ds = true) (h' : pl d = true) (hn : ∀ d ∈ ds, d.depth ≤ 60) (hd : d.depth ≤ 60) (hb : b = true ↔ d ∈ ds) : Rd2 K (rInD K) d (.list ds) (.bool b) := by
  rw [← any_iff h h' hb]
  exact rd_inD (shp_pl h' (by omega)) (shp_list (n := 0) h hn)
theorem rd_niP {ds : List Dt} {d : Dt} {b : Bool} (h : pls ds = true) (h' : pl d = true) (hn : ∀ d ∈ ds, d.depth ≤ 60) (hd : d.depth ≤ 60) (hb : b = true ↔ d ∈ ds) : Rd2 K (rNotInD K) d (.list ds) (.bool (!b)) := by
  rw [← any_iff h h' hb]
  exact rd_niD (shp_pl h' (by omega)) (shp_list (n := 0) h hn)
theorem pls_ints {ns : List Int} : pls (ns.map .int) = true := pls_map fun i => by rw [pl]
theorem dep_ints {ns : List Int} : ∀ d ∈ ns.map PyData.int, d.depth ≤ 60 := fun d hd => by
  obtain ⟨n, _, rfl⟩ := List.mem_map.mp hd
  rw [PyData.depth]
  exact Nat.zero_le _
theorem mem_ints {ns : List Int} {t : Int} : PyData.int t ∈ ns.map PyData.int ↔ t ∈ ns := by
  rw [List.mem_map]
  exact ⟨fun ⟨n, h, e⟩ => PyData.int.inj e ▸ h, fun h => ⟨t, h, rfl⟩⟩
theorem rd_inI {ns : List Int} {t : Int} : Rd2 K (rInD K) (.int t) (.list (ns.map .int)) (.bool (decide (t ∈ ns))) := rd_inP pls_ints (by rw [pl]) dep_ints (by rw [PyData.depth] <;> omega) (by rw [mem_ints, decide_eq_true_eq])
theorem rd_niI {ns : List Int} {t : Int} : Rd2 K (rNotInD K) (.int t) (.list (ns.map .int)) (.bool (!decide (t ∈ ns))) := rd_niP pls_ints (by rw [pl]) dep_ints (by rw [PyData.depth] <;> omega) (by rw [mem_ints, decide_eq_true_eq])
theorem yd_index {tl tu : TE} {ds : List Dt} {d : Dt} {j : Nat} (hl : Yd K tl σ H (.list ds)) (hu : Yd K tu σ H d) (h : pls ds = true) (h' : pl d = true) (hn : ∀ d ∈ ds, d.depth ≤ 60) (hd : d.depth ≤ 60) (hj : ds[j]? = some d) (hm : ∀ m, m < j → ds[m]? ≠ some d) :
    Yd K (tBM K "list" (rIndexD K) tl (tCons tu tNil)) σ H (.int (j : Nat)) := fun H1 x Q q => hl H1 x _ fun v H2 e2 p2 => by
  obtain ⟨a, xs, rfl, hs, hd2⟩ := dp_lst p2
  refine ⟨.inl ⟨rfl, xs, hs⟩, hu H2 (x.trans e2) _ fun u H3 e3 p3 => ?_⟩
  refine ⟨a, u, d, ds, j, d, rfl, rfl, dp_ex e3 p2, p3, shp_list (n := 0) h hn, shp_pl h' (by omega), hj, (eqv_pl h' h').mpr rfl, fun m z hmj hz => ?_, q _ H3 (e2.trans e3) (.int _)⟩
  have hzp : pl z = true := by
    have mz := List.mem_of_getElem? hz
    clear hn hm hj hl p2 hd2 hz
    induction ds with
    | nil => cases mz
    | cons y r ih =>
      rw [pls, Bool.and_eq_true] at h
      rcases List.mem_cons.mp mz with e | m
      · exact e ▸ h.1
      · exact ih h.2 m
  cases e : PyData.eqv z d with
  | false => rfl
  | true => exact absurd ((eqv_pl hzp h').mp e ▸ hz) (hm m hmj)
theorem idx_ints {ns : List Int} {t : Int} {j : Nat} (hj : ns[j]? = some t) (hm : ∀ m, m < j → ns[m]? ≠ some t) : (ns.map PyData.int)[j]? = some (.int t) ∧ ∀ m, m < j → (ns.map PyData.int)[m]? ≠ some (.int t) := by
  refine ⟨by rw [List.getElem?_map, hj] <;> rfl, fun m h e => ?_⟩
  rw [List.getElem?_map] at e
  cases q : ns[m]? with
  | none => rw [q] at e; cases e
  | some z =>
    rw [q] at e
    have e' := PyData.int.inj (Option.some.inj e)
    exact hm m h (by rw [q, e'])
theorem yd_indexI {tl tu : TE} {ns : List Int} {t : Int} {j : Nat} (hl : Yd K tl σ H (.list (ns.map .int))) (hu : Yd K tu σ H (.int t)) (hj : ns[j]? = some t) (hm : ∀ m, m < j → ns[m]? ≠ some t) : Yd K (tBM K "list" (rIndexD K) tl (tCons tu tNil)) σ H (.int (j : Nat)) :=
  yd_index hl hu pls_ints (by rw [pl]) dep_ints (by rw [PyData.depth] <;> omega) (idx_ints hj hm).1 (idx_ints hj hm).2
theorem yi_rng {ta : TA} {m : Int} (h : Ya K ta σ H [.int m]) (hm : 0 ≤ m ∧ m ≤ 10000000) : Yi K (iRng1 ta) σ H m.toNat (fun i => .int (i : Int)) := (yi_rng1 h hm).cast rfl fun i _ => by rw [Int.zero_add]
theorem kept_all {n : Nat} {v : Nat → Dt} : kept n (fun _ => true) v = (List.range n).map v := by
  unfold kept
  rw [List.filter_eq_self.mpr fun _ _ => rfl]
/-- .. the first place of what is there -/
theorem first_at {t : Int} : ∀ {ns : List Int}, t ∈ ns → ∃ j : Nat, ns[j]? = some t ∧ ∀ m, m < j → ns[m]? ≠ some t
  | [], h => by cases h
  | x :: r, h => by
    by_cases e : x = t
    · exact ⟨0, by rw [e] <;> rfl, fun m hm => by omega⟩
    · rcases List.mem_cons.mp h with e' | m
      · exact absurd e'.symm e
      · obtain ⟨j, h1, h2⟩ := first_at m
        refine ⟨j + 1, h1, fun m hm => ?_⟩
        cases m with
        | zero => exact fun z => e (Option.some.inj z)
        | succ m => exact h2 m (by omega)
/-! ### sums, slices, two names out of two draws -/
theorem rd_sumI {ns : List Int} : RdC K (rSum K) [.list (ns.map .int)] (.int ns.sum) := fun vs H Q p k => by
  obtain ⟨v, r, rfl, q1, q2⟩ := dps_cons p
  obtain rfl := dps_nil q2
  obtain ⟨a, xs, rfl, hs, hd⟩ := dp_lst q1
  obtain rfl := of_dps_ints hd
  exact ⟨a, ns, rfl, hs, k _ H ex_rfl (.int _)⟩
def cutD (ds : List Dt) (lo hi : Option Int) : List Dt := (ds.drop (HT.sIx ds.length 0 lo)).take (HT.sIx ds.length ds.length hi - HT.sIx ds.length 0 lo)
theorem yo_none : Yo tNoPart σ H none := fun H1 x Q q => q H1 ex_rfl
theorem yo_some {i : Int} (h : Yd K te σ H (.int i)) : Yo (tPart te) σ H (some i) := fun H1 x Q q => h H1 x _ fun v H2 e2 p2 => ⟨i, dp_int p2, q H2 e2⟩
theorem yn_slice {tl th : TO} {ds : List Dt} {lo hi : Option Int} (h : Yd K te σ H (.list ds)) (h1 : Yo tl σ H lo) (h2 : Yo th σ H hi) : Yn K (tSl (rSlL K) te tl th) σ H (cutD ds lo hi) := fun H1 x Q q => h H1 x _ fun v H2 e2 p2 => h1 H2 (x.trans e2) _ fun H3 e3 => h2 H3 ((x.trans e2).trans e3) _ fun H4 e4 => by
  obtain ⟨a, xs, rfl, hs, hd⟩ := dp_lst p2
  have e := e3.trans e4
  refine ⟨a, xs, rfl, Evl.ex_l e hs, fun p hp => q p _ _ (Evl.fresh_back (e2.trans e) hp) ((e2.trans e).trans (Evl.Ex.new hp)) upd_same ?_⟩
  unfold cutV cutD
  rw [dps_len hd]
  exact dps_ex (Evl.Ex.new hp) (dps_take _ (dps_drop _ (dps_ex e hd)))
theorem q_tup2 {M : Hp} {p q : Addr} {φ ψ : V → Prop} {tu : TE} {D : Ends} {tz : TS} {i j : Nat} (hm : Md M p q H) (h : Zv M p q te σ φ) (h' : Zv M p q tu σ ψ) (k : ∀ v w H2, φ v → ψ w → Md M p q H2 → tz D ((σ.set i (some v)).set j (some w)) H2) :
    tSeq (tAsg (tTup (tCons te (tCons tu tNil))) (gTup K 2 (gCons (gName i) (gCons (gName j) gNil)))) tz D σ H :=
  h H hm _ fun v H2 hv m2 => h' H2 m2 _ fun w H3 hw m3 => ⟨by show 2 ≤ sizeLine; decide, fun a ha => ⟨a, [v, w], rfl, .inl (.inl upd_same), rfl, v, [w], rfl, w, [], rfl, rfl, k v w _ hv hw (m3.step (Evl.Ex.new ha))⟩⟩
theorem getD_ints {ns : List Int} {i : Nat} (hi : i < ns.length) : (ns.map PyData.int)[i]? = some (.int (ns.getD i 0)) := by
  rw [List.getElem?_map, List.getD_eq_getElem?_getD, List.getElem?_eq_getElem hi] <;> rfl
theorem yi_ints {ns : List Int} (h : Yd K te σ H (.list (ns.map .int))) : Yi K (iList K te) σ H ns.length (fun i => .int (ns.getD i 0)) := (yi_list h).cast (List.length_map _) fun i hi => by
  have := atD_get (ds := ns.map PyData.int) (i := i) (by rw [List.length_map]; exact hi)
  rw [getD_ints hi] at this
  exact (Option.some.inj this).symm
theorem kept_none {n : Nat} {f : Nat → Bool} {v : Nat → Dt} (h : ∀ i, i < n → f i = false) : kept n f v = [] := by
  unfold kept
  rw [List.filter_eq_nil_iff.mpr fun i hi => by rw [h i (List.mem_range.mp hi)]; decide] <;> rfl
theorem getD_mem {ns : List Int} {i : Nat} (hi : i < ns.length) : ns.getD i 0 ∈ ns := by
  rw [List.getD_eq_getElem?_getD, List.getElem?_eq_getElem hi]
  exact List.getElem_mem hi
/-- for name in a list, whatever is added to the heap meanwhile -/
theorem f_lstE {ds : List Dt} {tb tz : TS} {D : Ends} {j : Nat} (h : Yd K te σ H (.list ds)) (k : ∀ H1, Ex H H1 → ∃ Pv : Nat → L2.St → Hp → Prop, Pv 0 σ H1 ∧ (∀ i σ' H', Pv i σ' H' → Ex H1 H') ∧
    (∀ i d x σ' H', ds[i]? = some d → Dp K H' x d → Pv i σ' H' → tb { D with nx := Pv (i + 1), ct := Pv (i + 1), bk := tz D } (σ'.set j (some x)) H') ∧ ∀ σ' H', Pv ds.length σ' H' → tz D σ' H') : tSeq (tFor (iList K te) (gName j) tb) tz D σ H :=
  h H ex_rfl _ fun v H1 e1 p => by
    obtain ⟨a, xs, rfl, h1, h2⟩ := dp_lst p
    have hl := dps_len h2
    obtain ⟨Pv, q0, q1, q2, q3⟩ := k H1 e1
    refine ⟨a, rfl, ⟨xs, h1⟩, ?_⟩
    refine for_list (D := { D with nx := tz D }) Pv q0 (fun i σ' H' hi pv => Evl.ex_l (q1 i σ' H' pv) h1) (fun i x σ' H' hx pv => ?_) (by rw [hl]; exact q3)
    obtain ⟨d, z1, z2⟩ := dps_at (dps_ex (q1 i σ' H' pv) h2) hx
    exact q2 i d x σ' H' z1 z2 pv
/-- a list of ints made beside the draws stays through the next draw -/
theorem acc_msk {p q mp : Addr} {H0 : Hp} (hd : Dr H0 p q) (hf : H0 mp = none) (h : Acc K H mp (ns.map .int)) : Dp K (msk p q H) (.ref mp) (.list (ns.map .int)) := by
  obtain ⟨xs, h1, h2⟩ := h
  obtain rfl := of_dps_ints h2
  obtain ⟨_, c, ms, h3, h4, _⟩ := hd
  exact .lst (msk_l h1 (fun z => by rw [z, h3] at hf; cases hf) fun z => by rw [z, h4] at hf; cases hf) (dps_ints _)
end
end Wc

/-! The mirror: what a def computes, over plain data, no heap in sight. -/
namespace Wc
open PySem
/-- a value, an exception of a class, nothing known -/
inductive O (α : Type) where
  | ok (a : α) | ex (x : Str) | no
def O.bind {α β : Type} : O α → (α → O β) → O β
  | .ok a, f => f a
  | .ex x, _ => .ex x
  | .no, _ => .no
@[simp] theorem O.bind_ok {α β : Type} {a : α} {f : α → O β} : (O.ok a).bind f = f a := rfl
@[simp] theorem O.bind_ex {α β : Type} {x : Str} {f : α → O β} : (O.ex x).bind f = .ex x := rfl
@[simp] theorem O.bind_no {α β : Type} {f : α → O β} : (O.no : O α).bind f = .no := rfl
/-- what a def gives -/
inductive Rs where
  | val (d : Dt) | new (ds : List Dt) | ob (g : Dt) (st : Int) (sp ps : List Int)
/-- what a slot holds: data; a list that stays; a list of ours that may change; the draws; a drawing; a caught exception -/
inductive Cell where
  | no | val (d : Dt) | tl (ds : List Dt) | own (ds : List Dt) | dr (p q : Addr) | ob (a : Addr) (g : Dt) (st : Int) (sp ps : List Int) | er (x : Str) | ll (dss : List (List Dt))
abbrev MEnv := List Cell
abbrev MP := MEnv → O Dt
abbrev MA := MEnv → O (List Dt)
abbrev MB := MEnv → O Bool
abbrev MF := List Dt → O Rs
def asDt : Rs → O Dt
  | .val d => .ok d
  | .new ds => .ok (.list ds)
  | .ob .. => .no
@[simp] theorem asDt_val {d : Dt} : asDt (.val d) = .ok d := rfl
@[simp] theorem asDt_new {ds : List Dt} : asDt (.new ds) = .ok (.list ds) := rfl
def asNew : Rs → O Dt
  | .new ds => .ok (.list ds)
  | _ => .no
@[simp] theorem asNew_new {ds : List Dt} : asNew (.new ds) = .ok (.list ds) := rfl
def cellOf : Dt → Cell
  | .list ds => .tl ds
  | d => .val d
@[simp] theorem cellOf_list {ds : List Dt} : cellOf (.list ds) = .tl ds := rfl
@[simp] theorem cellOf_int {i : Int} : cellOf (.int i) = .val (.int i) := rfl
@[simp] theorem cellOf_bool {i : Bool} : cellOf (.bool i) = .val (.bool i) := rfl
@[simp] theorem cellOf_str {i : Str} : cellOf (.str i) = .val (.str i) := rfl
@[simp] theorem cellOf_none : cellOf .none = .val .none := rfl
@[simp] theorem cellOf_tuple {ds : List Dt} : cellOf (.tuple ds) = .val (.tuple ds) := rfl
/-! ### expressions -/
def pC (d : Dt) : MP := fun _ => .ok d
@[simp] theorem pC_eq {d : Dt} {ρ : MEnv} : pC d ρ = .ok d := rfl
def cellD : Cell → O Dt
  | .val d => .ok d
  | .tl ds => .ok (.list ds)
  | .own ds => .ok (.list ds)
  | _ => .no
@[simp] theorem cellD_val {d : Dt} : cellD (.val d) = .ok d := rfl
@[simp] theorem cellD_tl {ds : List Dt} : cellD (.tl ds) = .ok (.list ds) := rfl
@[simp] theorem cellD_own {ds : List Dt} : cellD (.own ds) = .ok (.list ds) := rfl
def at_ (ρ : MEnv) (i : Nat) : Cell := (ρ[i]?).getD .no
@[simp] theorem at_0 {c : Cell} {ρ : MEnv} : at_ (c :: ρ) 0 = c := rfl
@[simp] theorem at_s {c : Cell} {ρ : MEnv} {i : Nat} : at_ (c :: ρ) (i + 1) = at_ ρ i := rfl
/-- a name, read -/
def pVar (i : Nat) : MP := fun ρ => cellD (at_ ρ i)
/-- .. whose value stays as it is, a list of the arguments too -/
def cellG : Cell → O Dt
  | .val d => .ok d
  | .tl ds => .ok (.list ds)
  | _ => .no
@[simp] theorem cellG_val {d : Dt} : cellG (.val d) = .ok d := rfl
@[simp] theorem cellG_tl {ds : List Dt} : cellG (.tl ds) = .ok (.list ds) := rfl
def pGv (i : Nat) : MP := fun ρ => cellG (at_ ρ i)
/-- a name whose value stays as it is -/
def cellV : Cell → O Dt
  | .val (.list _) => .no
  | .val d => .ok d
  | .tl ds => .ok (.list ds)
  | _ => .no
def pVal (i : Nat) : MP := fun ρ => cellV (at_ ρ i)
@[simp] theorem cellV_int {i : Int} : cellV (.val (.int i)) = .ok (.int i) := rfl
@[simp] theorem cellV_bool {i : Bool} : cellV (.val (.bool i)) = .ok (.bool i) := rfl
@[simp] theorem cellV_str {i : Str} : cellV (.val (.str i)) = .ok (.str i) := rfl
@[simp] theorem cellV_none : cellV (.val .none) = .ok .none := rfl
@[simp] theorem cellV_tuple {ds : List Dt} : cellV (.val (.tuple ds)) = .ok (.tuple ds) := rfl
@[simp] theorem cellV_tl {ds : List Dt} : cellV (.tl ds) = .ok (.list ds) := rfl
def pOp (h : Dt → Dt → O Dt) (a b : MP) : MP := fun ρ => (a ρ).bind fun x => (b ρ).bind fun y => h x y
def pUn (h : Dt → O Dt) (a : MP) : MP := fun ρ => (a ρ).bind h
def aNil : MA := fun _ => .ok []
def aCons (a : MP) (r : MA) : MA := fun ρ => (a ρ).bind fun x => (r ρ).bind fun xs => .ok (x :: xs)
def pTup (a : MA) : MP := fun ρ => (a ρ).bind fun ds => if ds.length ≤ 100000 then .ok (.tuple ds) else .no
def pLst (a : MA) : MP := fun ρ => (a ρ).bind fun ds => if ds.length ≤ 100000 then .ok (.list ds) else .no
def pCB (h : List Dt → O Dt) (a : MA) : MP := fun ρ => (a ρ).bind h
def asL : Dt → O (List Dt)
  | .list ds => .ok ds
  | _ => .no
@[simp] theorem asL_list {ds : List Dt} : asL (.list ds) = .ok ds := rfl
/-- a list's method -/
def pBM (h : List Dt → List Dt → O Dt) (o : MP) (a : MA) : MP := fun ρ => ((o ρ).bind asL).bind fun x => (a ρ).bind fun xs => h x xs
def pCall (m : MF) (a : MA) : MP := fun ρ => (a ρ).bind fun ds => (m ds).bind asDt
def pCallN (m : MF) (a : MA) : MP := fun ρ => (a ρ).bind fun ds => (m ds).bind asNew
def pIf (t : MB) (a b : MP) : MP := fun ρ => (t ρ).bind fun c => bif c then a ρ else b ρ
def asB : Dt → O Bool
  | .bool b => .ok b
  | _ => .no
@[simp] theorem asB_bool {b : Bool} : asB (.bool b) = .ok b := rfl
def bTest (a : MP) : MB := fun ρ => (a ρ).bind asB
def bYes : MB := fun _ => .ok true
def bAnd (t u : MB) : MB := fun ρ => (t ρ).bind fun c => bif c then u ρ else .ok false
def bOr (t u : MB) : MB := fun ρ => (t ρ).bind fun c => bif c then .ok true else u ρ
def bNot (t : MB) : MB := fun ρ => (t ρ).bind fun c => .ok (!c)
def pOfB (t : MB) : MP := fun ρ => (t ρ).bind fun c => .ok (.bool c)
def pAnd (a b : MP) : MP := pOfB (bAnd (bTest a) (bTest b))
def pOr (a b : MP) : MP := pOfB (bOr (bTest a) (bTest b))
def pNot (a : MP) : MP := pOfB (bNot (bTest a))
def pChain (h h' : Dt → Dt → O Dt) (a b c : MP) : MP := fun ρ => (a ρ).bind fun x => (b ρ).bind fun y => (h x y).bind fun z => (asB z).bind fun k => bif k then (c ρ).bind fun w => h' y w else .ok (.bool false)
def pChain3 (h h' h'' : Dt → Dt → O Dt) (a b c d : MP) : MP := fun ρ => (a ρ).bind fun x => (b ρ).bind fun y => (h x y).bind fun z => (asB z).bind fun k => bif k then ((c ρ).bind fun w => (h' y w).bind fun z' => (asB z').bind fun k' => bif k' then (d ρ).bind fun u => h'' w u else .ok (.bool false)) else .ok (.bool false)
/-- no list within -/
def gFz (d : Dt) : O Dt := if noLst d then .ok d else .no
def pFz (a : MP) : MP := fun ρ => (a ρ).bind gFz
/-- a list with no list within -/
def gFn : Dt → O Dt
  | .list ds => if noLsts ds then .ok (.list ds) else .no
  | _ => .no
def pFn (a : MP) : MP := fun ρ => (a ρ).bind gFn
/-! operators -/
def hAdd : Dt → Dt → O Dt
  | .int a, .int b => .ok (.int (a + b))
  | _, _ => .no
def hSub : Dt → Dt → O Dt
  | .int a, .int b => .ok (.int (a - b))
  | _, _ => .no
abbrev CMulB (a : Int) : Prop := -18446744073709551616 < a ∧ a < 18446744073709551616
def hMul : Dt → Dt → O Dt
  | .int a, .int b => if CMulB a ∨ CMulB b then .ok (.int (a * b)) else .no
  | _, _ => .no
def hMod : Dt → Dt → O Dt
  | .int a, .int b => if 0 < b then .ok (.int (a % b)) else .no
  | _, _ => .no
def hDiv : Dt → Dt → O Dt
  | .int a, .int b => if 0 < b ∧ b < 1073741824 then .ok (.int (a / b)) else .no
  | _, _ => .no
def hNeg : Dt → O Dt
  | .int a => .ok (.int (-a))
  | _ => .no
def hLt : Dt → Dt → O Dt
  | .int a, .int b => .ok (.bool (decide (a < b)))
  | _, _ => .no
def hLe : Dt → Dt → O Dt
  | .int a, .int b => .ok (.bool (decide (a ≤ b)))
  | _, _ => .no
def hGt : Dt → Dt → O Dt
  | .int a, .int b => .ok (.bool (decide (b < a)))
  | _, _ => .no
def hGe : Dt → Dt → O Dt
  | .int a, .int b => .ok (.bool (decide (b ≤ a)))
  | _, _ => .no
def hEq (d e : Dt) : O Dt := if SeqAt.shaped d && SeqAt.shaped e then .ok (.bool (PyData.eqv d e)) else .no
def hNe (d e : Dt) : O Dt := if SeqAt.shaped d && SeqAt.shaped e then .ok (.bool (!PyData.eqv d e)) else .no
def isNn : Dt → Bool
  | .none => true
  | _ => false
def hIsN : Dt → Dt → O Dt
  | d, .none => .ok (.bool (isNn d))
  | _, _ => .no
def hNotN : Dt → Dt → O Dt
  | d, .none => .ok (.bool (!isNn d))
  | _, _ => .no
def hIsB : Dt → Dt → O Dt
  | .bool a, .bool b => .ok (.bool (decide (a = b)))
  | _, _ => .no
def hNotB : Dt → Dt → O Dt
  | .bool a, .bool b => .ok (.bool (!decide (a = b)))
  | _, _ => .no
def hIn : Dt → Dt → O Dt
  | d, .list ds => if SeqAt.shaped d && SeqAt.shaped (.list ds) then .ok (.bool (ds.any fun z => PyData.eqv z d)) else .no
  | _, _ => .no
def hNi : Dt → Dt → O Dt
  | d, .list ds => if SeqAt.shaped d && SeqAt.shaped (.list ds) then .ok (.bool (!ds.any fun z => PyData.eqv z d)) else .no
  | _, _ => .no
def strsOf : List Dt → Option (List Str)
  | [] => some []
  | .str x :: r => (strsOf r).map (x :: ·)
  | _ :: _ => none
theorem strsOf_eq : ∀ {ds : List Dt} {ys : List Str}, strsOf ds = some ys → ds = ys.map .str
  | [], _, h => by cases h; rfl
  | d :: r, ys, h => by
    cases d with
    | str x =>
      rw [strsOf] at h
      cases q : strsOf r with
      | none => rw [q] at h; cases h
      | some zs =>
        rw [q] at h
        cases h
        rw [strsOf_eq q] <;> rfl
    | _ => cases h
def intsOf : List Dt → Option (List Int)
  | [] => some []
  | .int x :: r => (intsOf r).map (x :: ·)
  | _ :: _ => none
theorem intsOf_eq : ∀ {ds : List Dt} {ys : List Int}, intsOf ds = some ys → ds = ys.map .int
  | [], _, h => by cases h; rfl
  | d :: r, ys, h => by
    cases d with
    | int x =>
      rw [intsOf] at h
      cases q : intsOf r with
      | none => rw [q] at h; cases h
      | some zs =>
        rw [q] at h
        cases h
        rw [intsOf_eq q] <;> rfl
    | _ => cases h
@[simp] theorem intsOf_map : ∀ ns : List Int, intsOf (ns.map .int) = some ns
  | [] => rfl
  | n :: r => by rw [List.map_cons, intsOf, intsOf_map r] <;> rfl
def blsOf : List Dt → Option (List Bool)
  | [] => some []
  | .bool x :: r => (blsOf r).map (x :: ·)
  | _ :: _ => none
theorem blsOf_eq : ∀ {ds : List Dt} {ys : List Bool}, blsOf ds = some ys → ds = ys.map .bool
  | [], _, h => by cases h; rfl
  | d :: r, ys, h => by
    cases d with
    | bool x =>
      rw [blsOf] at h
      cases q : blsOf r with
      | none => rw [q] at h; cases h
      | some zs =>
        rw [q] at h
        cases h
        rw [blsOf_eq q] <;> rfl
    | _ => cases h
@[simp] theorem blsOf_map : ∀ ns : List Bool, blsOf (ns.map .bool) = some ns
  | [] => rfl
  | n :: r => by rw [List.map_cons, blsOf, blsOf_map r] <;> rfl
/-- a text in a written tuple of texts -/
def hInT : Dt → Dt → O Dt
  | .str x, .tuple ds => match strsOf ds with
    | some ys => .ok (.bool (decide (x ∈ ys)))
    | none => .no
  | _, _ => .no
def hNiT : Dt → Dt → O Dt
  | .str x, .tuple ds => match strsOf ds with
    | some ys => .ok (.bool (!decide (x ∈ ys)))
    | none => .no
  | _, _ => .no
/-- a sign in a text -/
def hInS : Dt → Dt → O Dt
  | .str c, .str z => match c.cps.toList with
    | [k] => .ok (.bool (decide (k ∈ z.cps.toList)))
    | _ => .no
  | _, _ => .no
def hIx : Dt → Dt → O Dt
  | .list ds, .int i => match L2.atI ds i with
    | some d => .ok d
    | none => .no
  | .tuple ds, .int i => match L2.atI ds i with
    | some d => .ok d
    | none => .no
  | _, _ => .no
def hCatS : Dt → Dt → O Dt
  | .str a, .str b => if a.length + b.length ≤ 100000 then .ok (.str (a ++ b)) else .no
  | _, _ => .no
def hCatT : Dt → Dt → O Dt
  | .tuple a, .tuple b => if a ≠ [] ∧ b ≠ [] ∧ a.length + b.length ≤ 100000 then .ok (.tuple (a ++ b)) else .no
  | _, _ => .no
def hCat : Dt → Dt → O Dt
  | .list a, .list b => if a.length + b.length ≤ 100000 then .ok (.list (a ++ b)) else .no
  | _, _ => .no
def repD (ds : List Dt) (n : Nat) : List Dt := (List.replicate n ds).flatten
def hRep : Dt → Dt → O Dt
  | .list a, .int k => if -9223372036854775808 ≤ k ∧ k < 9223372036854775808 ∧ a.length * k.toNat ≤ 100000 then .ok (.list (repD a k.toNat)) else .no
  | _, _ => .no
/-! built-ins -/
def hLen : List Dt → O Dt
  | [.list ds] => .ok (.int ds.length)
  | [.tuple ds] => .ok (.int ds.length)
  | [.str x] => if x.length ≤ 100000 then .ok (.int x.length) else .no
  | _ => .no
def hMin2 : List Dt → O Dt
  | [.int a, .int b] => .ok (.int (min a b))
  | _ => .no
def hMax2 : List Dt → O Dt
  | [.int a, .int b] => .ok (.int (max a b))
  | _ => .no
def hAbs : List Dt → O Dt
  | [.int a] => .ok (.int a.natAbs)
  | _ => .no
def hSum : List Dt → O Dt
  | [.list ds] => match intsOf ds with
    | some ns => .ok (.int ns.sum)
    | none => .no
  | _ => .no
def maxI : List Int → Int
  | [] => 0
  | a :: r => r.foldl max a
def minI : List Int → Int
  | [] => 0
  | a :: r => r.foldl min a
def hMax1 : List Dt → O Dt
  | [.list ds] => match intsOf ds with
    | some (n :: r) => .ok (.int (maxI (n :: r)))
    | _ => .no
  | _ => .no
def hMin1 : List Dt → O Dt
  | [.list ds] => match intsOf ds with
    | some (n :: r) => .ok (.int (minI (n :: r)))
    | _ => .no
  | _ => .no
def hAll : List Dt → O Dt
  | [.list ds] => match blsOf ds with
    | some ns => .ok (.bool (ns.all id))
    | none => .no
  | _ => .no
def hIsi (n : String) (d : Dt) : O Dt := .ok (.bool (isT n d))
/-- sorted -/
def insI (x : Int) : List Int → List Int
  | [] => [x]
  | y :: r => if x ≤ y then x :: y :: r else y :: insI x r
def sortI : List Int → List Int
  | [] => []
  | x :: r => insI x (sortI r)
def insU (x : Int) : List Int → List Int
  | [] => [x]
  | y :: r => if x < y then x :: y :: r else if x = y then y :: r else y :: insU x r
def setI : List Int → List Int
  | [] => []
  | x :: r => insU x (setI r)
def hSort : List Dt → O Dt
  | [.list ds] => match intsOf ds with
    | some ns => .ok (.list ((sortI ns).map .int))
    | none => .no
  | _ => .no
def hSortSet : Dt → O Dt
  | .list ds => match intsOf ds with
    | some ns => if ns.length ≤ 4000 then .ok (.list ((setI ns).map .int)) else .no
    | none => .no
  | _ => .no
def hLenSet : Dt → O Dt
  | .list ds => match intsOf ds with
    | some ns => if ns.length ≤ 4000 then .ok (.int (setI ns).length) else .no
    | none => .no
  | _ => .no
def hListOf : List Dt → O Dt
  | [.list ds] => .ok (.list ds)
  | _ => .no
def idxD (d : Dt) : List Dt → Option Nat
  | [] => none
  | z :: r => if PyData.eqv z d then some 0 else (idxD d r).map (· + 1)
def hIndex : List Dt → List Dt → O Dt
  | ds, [d] => if SeqAt.shaped d && SeqAt.shaped (.list ds) then (match idxD d ds with
    | some j => .ok (.int (j : Nat))
    | none => .no) else .no
  | _, _ => .no
def hCount : List Dt → List Dt → O Dt
  | ds, [.int k] => match intsOf ds with
    | some ns => .ok (.int (ns.count k : Nat))
    | none => .no
  | _, _ => .no
def hStr : List Dt → O Dt
  | [.int i] => if i.natAbs.log2 < 1920 then .ok (.str (toString i)) else .no
  | _ => .no
def hInt : List Dt → O Dt
  | [.str a] => if a.length ≤ 640 then (match PySem.intText? a with
    | some n => .ok (.int n)
    | none => .no) else .no
  | _ => .no
/-! parts -/
def oNone : MEnv → O (Option Int) := fun _ => .ok none
def oSome (a : MP) : MEnv → O (Option Int) := fun ρ => (a ρ).bind fun d => match d with
  | .int i => .ok (some i)
  | _ => .no
def pSlL (a : MP) (lo hi : MEnv → O (Option Int)) : MP := fun ρ => (a ρ).bind fun d => (lo ρ).bind fun l => (hi ρ).bind fun h => match d with
  | .list ds => .ok (.list (cutD ds l h))
  | _ => .no
def pSlS (a : MP) (lo hi : MEnv → O (Option Int)) : MP := fun ρ => (a ρ).bind fun d => (lo ρ).bind fun l => (hi ρ).bind fun h => match d with
  | .str z => if z.length ≤ 100000 then .ok (.str (L2.cutS z l h)) else .no
  | _ => .no
def hRev : Dt → O Dt
  | .list ds => .ok (.list ds.reverse)
  | _ => .no
/-! what is walked: its items -/
abbrev MI := MEnv → O (List Dt)
def iL (a : MP) : MI := fun ρ => (a ρ).bind fun d => match d with
  | .list ds => .ok ds
  | _ => .no
def iT (a : MP) : MI := fun ρ => (a ρ).bind fun d => match d with
  | .tuple ds => .ok ds
  | _ => .no
def rngD (lo : Int) (n : Nat) : List Dt := (List.range n).map fun i => .int (lo + (i : Nat))
def iR1 (a : MP) : MI := fun ρ => (a ρ).bind fun d => match d with
  | .int m => if -10000000 ≤ m ∧ m ≤ 10000000 then .ok (rngD 0 m.toNat) else .no
  | _ => .no
def iR2 (a b : MP) : MI := fun ρ => (a ρ).bind fun d => (b ρ).bind fun e => match d, e with
  | .int l, .int m => if -10000000 ≤ l ∧ l ≤ 10000000 ∧ -10000000 ≤ m ∧ m ≤ 10000000 then .ok (rngD l (m - l).toNat) else .no
  | _, _ => .no
def rngC (lo c : Int) (n : Nat) : List Dt := (List.range n).map fun i => .int (lo + (i : Nat) * c)
def iR3 (a b s : MP) : MI := fun ρ => (a ρ).bind fun d => (b ρ).bind fun e => (s ρ).bind fun f => match d, e, f with
  | .int l, .int m, .int c => if -10000000 ≤ l ∧ l ≤ 10000000 ∧ -10000000 ≤ m ∧ m ≤ 10000000 ∧ 0 < c ∧ c ≤ 10000000 then .ok (rngC l c ((m - l + c - 1) / c).toNat) else .no
  | _, _, _ => .no
def zipD : List Dt → List Dt → List Dt
  | a :: r, b :: s => .tuple [a, b] :: zipD r s
  | _, _ => []
def iZ (a b : MP) : MI := fun ρ => (a ρ).bind fun d => (b ρ).bind fun e => match d, e with
  | .list xs, .list ys => .ok (zipD xs ys)
  | _, _ => .no
def enumD (i : Nat) : List Dt → List Dt
  | [] => []
  | a :: r => .tuple [.int (i : Nat), a] :: enumD (i + 1) r
def iE (a : MP) : MI := fun ρ => (a ρ).bind fun d => match d with
  | .list xs => .ok (enumD 0 xs)
  | _ => .no
def iS (a : MP) : MI := fun ρ => (a ρ).bind fun d => match d with
  | .str x => .ok (x.cps.toList.map fun c => .str ⟨#[c]⟩)
  | _ => .no
/-! targets -/
def wipeE (ρ : MEnv) : List Nat → MEnv
  | [] => ρ
  | v :: vs => (wipeE ρ vs).set v .no
@[simp] theorem wipeE_nil {ρ : MEnv} : wipeE ρ [] = ρ := rfl
@[simp] theorem wipeE_cons {ρ : MEnv} {v : Nat} {vs : List Nat} : wipeE ρ (v :: vs) = (wipeE ρ vs).set v .no := rfl
inductive Tg where
  | one (i : Nat) | two (i j : Nat) | three (i j l : Nat)
def Tg.put : Tg → Dt → MEnv → O MEnv
  | .one i, d, ρ => .ok (ρ.set i (.val d))
  | .two i j, .tuple [a, b], ρ => .ok ((ρ.set i (.val a)).set j (.val b))
  | .two _ _, _, _ => .no
  | .three i j l, .tuple [a, b, c], ρ => .ok (((ρ.set i (.val a)).set j (.val b)).set l (.val c))
  | .three _ _ _, _, _ => .no
@[simp] theorem put_three {i j l : Nat} {a b c : Dt} {ρ : MEnv} : (Tg.three i j l).put (.tuple [a, b, c]) ρ = .ok (((ρ.set i (.val a)).set j (.val b)).set l (.val c)) := rfl
@[simp] theorem put_one {i : Nat} {d : Dt} {ρ : MEnv} : (Tg.one i).put d ρ = .ok (ρ.set i (.val d)) := rfl
@[simp] theorem put_two {i j : Nat} {a b : Dt} {ρ : MEnv} : (Tg.two i j).put (.tuple [a, b]) ρ = .ok ((ρ.set i (.val a)).set j (.val b)) := rfl
/-! comprehensions -/
/-- an exception within a comprehension: nothing known -/
def O.nx {α : Type} : O α → O α
  | .ok a => .ok a
  | _ => .no
@[simp] theorem O.nx_ok {α : Type} {a : α} : (O.ok a).nx = .ok a := rfl
def compL (g : Tg) (t : MB) (e : MP) (ρ : MEnv) : List Dt → O (List Dt)
  | [] => .ok []
  | d :: ds => (g.put d ρ).bind fun ρ' => (t ρ').nx.bind fun c => bif c then ((e ρ').nx.bind fun x => (compL g t e ρ ds).bind fun xs => .ok (x :: xs)) else compL g t e ρ ds
def pComp (src : MI) (g : Tg) (vs : List Nat) (t : MB) (e : MP) : MP := fun ρ => (src ρ).bind fun ds => if ds.length ≤ 100000 then (compL g t (pFz e) (wipeE ρ vs) ds).bind fun xs => .ok (.list xs) else .no
/-! ### statements -/
inductive T (α : Type) where
  | ret (a : α) | exc (x : Str) (ρ : MEnv) | any (φ : Dt → Prop) (k : Dt → T α) | fresh (k : Addr → Addr → T α) | no
def T.bind {α β : Type} : T α → (α → T β) → T β
  | .ret a, f => f a
  | .exc x ρ, _ => .exc x ρ
  | .any φ k, f => .any φ fun d => (k d).bind f
  | .fresh k, f => .fresh fun p q => (k p q).bind f
  | .no, _ => .no
@[simp] theorem T.bind_ret {α β : Type} {a : α} {f : α → T β} : (T.ret a).bind f = f a := rfl
@[simp] theorem T.bind_exc {α β : Type} {x : Str} {ρ : MEnv} {f : α → T β} : (T.exc x ρ).bind f = .exc x ρ := rfl
@[simp] theorem T.bind_any {α β : Type} {φ : Dt → Prop} {k : Dt → T α} {f : α → T β} : (T.any φ k).bind f = .any φ fun d => (k d).bind f := rfl
@[simp] theorem T.bind_fresh {α β : Type} {k : Addr → Addr → T α} {f : α → T β} : (T.fresh k).bind f = .fresh fun p q => (k p q).bind f := rfl
@[simp] theorem T.bind_no {α β : Type} {f : α → T β} : (T.no : T α).bind f = .no := rfl
def T.all {α : Type} (Q : α → Prop) (X : Str → MEnv → Prop) : T α → Prop
  | .ret a => Q a
  | .exc x ρ => X x ρ
  | .any φ k => ∀ d, φ d → (k d).all Q X
  | .fresh k => ∀ p q, (k p q).all Q X
  | .no => False
section
variable {α β : Type} {Q : α → Prop} {X : Str → MEnv → Prop}
@[simp] theorem T.all_ret {a : α} : (T.ret a).all Q X ↔ Q a := Iff.rfl
@[simp] theorem T.all_exc {x : Str} {ρ : MEnv} : (T.exc x ρ : T α).all Q X ↔ X x ρ := Iff.rfl
@[simp] theorem T.all_any {φ : Dt → Prop} {k : Dt → T α} : (T.any φ k).all Q X ↔ ∀ d, φ d → (k d).all Q X := Iff.rfl
@[simp] theorem T.all_fresh {k : Addr → Addr → T α} : (T.fresh k).all Q X ↔ ∀ p q, (k p q).all Q X := Iff.rfl
@[simp] theorem T.all_no : (T.no : T α).all Q X ↔ False := Iff.rfl
theorem T.all_bind {R : β → Prop} {f : α → T β} : ∀ t : T α, (t.bind f).all R X ↔ t.all (fun a => (f a).all R X) X
  | .ret a => Iff.rfl
  | .exc x ρ => Iff.rfl
  | .any φ k => forall_congr' fun d => imp_congr_right fun _ => T.all_bind (k d)
  | .fresh k => forall_congr' fun p => forall_congr' fun q => T.all_bind (k p q)
  | .no => Iff.rfl
theorem T.all_mono {R : α → Prop} {Y : Str → MEnv → Prop} (h : ∀ a, Q a → R a) (h' : ∀ x ρ, X x ρ → Y x ρ) : ∀ {t : T α}, t.all Q X → t.all R Y
  | .ret a, z => h a z
  | .exc x ρ, z => h' x ρ z
  | .any φ k, z => fun d hd => T.all_mono h h' (z d hd)
  | .fresh k, z => fun p q => T.all_mono h h' (z p q)
  | .no, z => z
end
inductive Out where
  | nx (ρ : MEnv) | rt (r : Rs) (ρ : MEnv) | bk (ρ : MEnv) | ct (ρ : MEnv)
abbrev MS := MEnv → T Out
abbrev MW := MEnv → T (Dt × MEnv)
def ofO {α β : Type} : O α → MEnv → (α → T β) → T β
  | .ok a, _, f => f a
  | .ex x, ρ, _ => .exc x ρ
  | .no, _, _ => .no
@[simp] theorem ofO_ok {α β : Type} {a : α} {ρ : MEnv} {f : α → T β} : ofO (.ok a) ρ f = f a := rfl
@[simp] theorem ofO_ex {α β : Type} {x : Str} {ρ : MEnv} {f : α → T β} : ofO (.ex x) ρ f = .exc x ρ := rfl
@[simp] theorem ofO_no {α β : Type} {ρ : MEnv} {f : α → T β} : ofO .no ρ f = .no := rfl
def sNext : MS := fun ρ => .ret (.nx ρ)
def seqK (t : MS) : Out → T Out
  | .nx ρ => t ρ
  | o => .ret o
@[simp] theorem seqK_nx {t : MS} {ρ : MEnv} : seqK t (.nx ρ) = t ρ := rfl
@[simp] theorem seqK_rt {t : MS} {r : Rs} {ρ : MEnv} : seqK t (.rt r ρ) = .ret (.rt r ρ) := rfl
@[simp] theorem seqK_bk {t : MS} {ρ : MEnv} : seqK t (.bk ρ) = .ret (.bk ρ) := rfl
@[simp] theorem seqK_ct {t : MS} {ρ : MEnv} : seqK t (.ct ρ) = .ret (.ct ρ) := rfl
def sSeq (s t : MS) : MS := fun ρ => (s ρ).bind (seqK t)
/-- a name set to what stays -/
def sSet (i : Nat) (a : MP) : MS := fun ρ => ofO (a ρ) ρ fun d => .ret (.nx (ρ.set i (cellOf d)))
def gOwn : Dt → O (List Dt)
  | .list ds => if noLsts ds then .ok ds else .no
  | _ => .no
/-- .. to a new list of ours -/
def sOwn (i : Nat) (a : MP) : MS := fun ρ => ofO ((a ρ).bind gOwn) ρ fun ds => .ret (.nx (ρ.set i (.own ds)))
def sRet (a : MP) : MS := fun ρ => ofO (a ρ) ρ fun d => .ret (.rt (.val d) ρ)
def sRetN (a : MP) : MS := fun ρ => ofO (a ρ) ρ fun d => match d with
  | .list ds => .ret (.rt (.new ds) ρ)
  | _ => .no
def ownC0 {β : Type} : Cell → (List Dt → T β) → T β
  | .own ds, f => f ds
  | _, _ => .no
@[simp] theorem ownC0_own {β : Type} {ds : List Dt} {f : List Dt → T β} : ownC0 (.own ds) f = f ds := rfl
def sRetO (i : Nat) : MS := fun ρ => ownC0 (at_ ρ i) fun ds => .ret (.rt (.new ds) ρ)
def sDrop (a : MP) : MS := fun ρ => ofO (a ρ) ρ fun _ => .ret (.nx ρ)
def sIf (t : MB) (a b : MS) : MS := fun ρ => ofO (t ρ) ρ fun c => bif c then a ρ else b ρ
def sRz (x : Str) : MS := fun ρ => .exc x ρ
def forK (k : MEnv → T Out) : Out → T Out
  | .nx ρ => k ρ
  | .ct ρ => k ρ
  | .bk ρ => .ret (.nx ρ)
  | .rt r ρ => .ret (.rt r ρ)
@[simp] theorem forK_nx {k : MEnv → T Out} {ρ : MEnv} : forK k (.nx ρ) = k ρ := rfl
@[simp] theorem forK_ct {k : MEnv → T Out} {ρ : MEnv} : forK k (.ct ρ) = k ρ := rfl
@[simp] theorem forK_bk {k : MEnv → T Out} {ρ : MEnv} : forK k (.bk ρ) = .ret (.nx ρ) := rfl
@[simp] theorem forK_rt {k : MEnv → T Out} {r : Rs} {ρ : MEnv} : forK k (.rt r ρ) = .ret (.rt r ρ) := rfl
def forL (g : Tg) (body : MS) : List Dt → MEnv → T Out
  | [], ρ => .ret (.nx ρ)
  | d :: ds, ρ => ofO (g.put d ρ) ρ fun ρ1 => (body ρ1).bind (forK (forL g body ds))
def sFor (src : MI) (g : Tg) (body : MS) : MS := fun ρ => ofO (src ρ) ρ fun ds => forL g body ds ρ
def whN (t : MB) (body : MS) : Nat → MEnv → T Out
  | 0, _ => .no
  | n + 1, ρ => ofO (t ρ) ρ fun c => bif c then (body ρ).bind (forK (whN t body n)) else .ret (.nx ρ)
def sWhile (t : MB) (body : MS) : MS := whN t body 1000000
/-- a list of ours grows, changes -/
def ownC {β : Type} : Cell → (List Dt → T β) → T β
  | .own ds, f => f ds
  | _, _ => .no
@[simp] theorem ownC_own {β : Type} {ds : List Dt} {f : List Dt → T β} : ownC (.own ds) f = f ds := rfl
def ownTo (i : Nat) (ρ : MEnv) (r : O (List Dt)) : T Out := ofO r ρ fun es => .ret (.nx (ρ.set i (.own es)))
@[simp] theorem ownTo_ok {i : Nat} {ρ : MEnv} {es : List Dt} : ownTo i ρ (.ok es) = .ret (.nx (ρ.set i (.own es))) := rfl
def gApp (ds : List Dt) (d : Dt) : O (List Dt) := if noLst d ∧ ds.length < 100000 then .ok (ds ++ [d]) else .no
def sApp (i : Nat) (a : MP) : MS := fun ρ => ownC (at_ ρ i) fun ds => ofO (a ρ) ρ fun d => ownTo i ρ (gApp ds d)
def gExt (ds : List Dt) : Dt → O (List Dt)
  | .list es => if noLsts es ∧ ds.length + es.length ≤ 100000 then .ok (ds ++ es) else .no
  | _ => .no
def sExt (i : Nat) (a : MP) : MS := fun ρ => ownC (at_ ρ i) fun ds => ofO (a ρ) ρ fun d => ownTo i ρ (gExt ds d)
def setD (ds : List Dt) (d : Dt) : Dt → O (List Dt)
  | .int k => match L2.ixN ds.length k with
    | some j => if noLst d then .ok (ds.set j d) else .no
    | none => .no
  | _ => .no
def sPut (i : Nat) (e v : MP) : MS := fun ρ => ofO (v ρ) ρ fun d => ownC (at_ ρ i) fun ds => ofO (e ρ) ρ fun k => ownTo i ρ (setD ds d k)
/-- found[e] += v -/
def augD (ds : List Dt) (k d : Dt) : O (List Dt) := (hIx (.list ds) k).bind fun x => (hAdd x d).bind fun y => setD ds y k
def sAugI (i : Nat) (e v : MP) : MS := fun ρ => ownC (at_ ρ i) fun ds => ofO (e ρ) ρ fun k => ofO (hIx (.list ds) k) ρ fun _ => ofO (v ρ) ρ fun d => ownTo i ρ (augD ds k d)
def augC : Cell → Dt → O Dt
  | .val (.int x), .int y => .ok (.int (x + y))
  | _, _ => .no
@[simp] theorem augC_int {x y : Int} : augC (.val (.int x)) (.int y) = .ok (.int (x + y)) := rfl
def valC {β : Type} : Cell → T β → T β
  | .val _, f => f
  | _, _ => .no
@[simp] theorem valC_val {β : Type} {d : Dt} {f : T β} : valC (.val d) f = f := rfl
def sAug (i : Nat) (v : MP) : MS := fun ρ => valC (at_ ρ i) (ofO (v ρ) ρ fun d => ofO (augC (at_ ρ i) d) ρ fun z => .ret (.nx (ρ.set i (.val z))))
def remI (k : Int) : List Int → Option (List Int)
  | [] => none
  | x :: r => if x = k then some r else (remI k r).map (x :: ·)
def remD (ds : List Dt) : Dt → O (List Dt)
  | .int k => match intsOf ds with
    | some ns => match remI k ns with
      | some ms => .ok (ms.map .int)
      | none => .no
    | none => .no
  | _ => .no
def sRem (i : Nat) (a : MP) : MS := fun ρ => ownC (at_ ρ i) fun ds => ofO (a ρ) ρ fun d => ownTo i ρ (remD ds d)
def sPar (i j : Nat) (a b : MP) : MS := fun ρ => ofO (a ρ) ρ fun d => ofO (b ρ) ρ fun e => .ret (.nx ((ρ.set i (cellOf d)).set j (cellOf e)))
def sPar3 (i j l : Nat) (a b c : MP) : MS := fun ρ => ofO (a ρ) ρ fun d => ofO (b ρ) ρ fun e => ofO (c ρ) ρ fun f => .ret (.nx (((ρ.set i (cellOf d)).set j (cellOf e)).set l (cellOf f)))
/-- both new lists of ours -/
def sParO (i j : Nat) (a b : MP) : MS := fun ρ => ofO ((a ρ).bind gOwn) ρ fun ds => ofO ((b ρ).bind gOwn) ρ fun es => .ret (.nx ((ρ.set i (.own ds)).set j (.own es)))
/-- the first a new list of ours -/
def sPar3O (i j l : Nat) (a b c : MP) : MS := fun ρ => ofO ((a ρ).bind gOwn) ρ fun ds => ofO ((b ρ).bind gFz) ρ fun e => ofO ((c ρ).bind gFz) ρ fun f => .ret (.nx (((ρ.set i (.own ds)).set j (cellOf e)).set l (cellOf f)))
/-! ### defs -/
def toRs : T Out → O Rs
  | .ret (.rt r _) => .ok r
  | .ret (.nx _) => .ok (.val .none)
  | .exc x _ => .ex x
  | _ => .no
@[simp] theorem toRs_rt {r : Rs} {ρ : MEnv} : toRs (.ret (.rt r ρ)) = .ok r := rfl
@[simp] theorem toRs_nx {ρ : MEnv} : toRs (.ret (.nx ρ)) = .ok (.val .none) := rfl
@[simp] theorem toRs_exc {x : Str} {ρ : MEnv} : toRs (.exc x ρ) = .ex x := rfl
def mkF (ar n : Nat) (s : MS) : MF := fun ds => if ds.length = ar then toRs (s (ds.map .val ++ List.replicate (n - ds.length) .no)) else .no
/-- a def's promise -/
def FM (m : MF) (ds : List Dt) (r : Res) : Prop := match m ds with
  | .ok (.val d) => r = .val d
  | .ok (.new es) => r = .new es
  | .ok (.ob ..) => r = .opq
  | .ex x => r = .exc x
  | _ => False
/-- a value of which nothing is told -/
abbrev rsOpq : Rs := .ob .none 0 [] []
end Wc

/-! What a reading gives is what the mirror says: expressions. -/
namespace Wc
open PySem PySem.Spec PyProof.Rows L2
/-- the heap without what is ours -/
def hid (o : Addr → Option Nat) (H : Hp) : Hp := fun a => if o a = none then H a else none
/-- a caught exception, kept -/
def ExK (cls : Value) (a : Addr) : HO := .ext fun h => ∃ (oe : Obj) (vs : Array Value), h.get? a = some oe ∧ Zc cls none oe ∧ oe.data = .fields vs
def ObOk (K : Fg) (o : Addr → Option Nat) (H : Hp) (i : Nat) (a : Addr) (g : Dt) (st : Int) (sp ps : List Int) : Prop :=
  ∃ (dx a1 a2 : Addr) (gv : V), H a = some (.ins (He.ga K "Drawing") dx [("gear", gv), ("start", .int st), ("steps", .ref a1), ("past", .ref a2)]) ∧ H dx = some (.own a) ∧ H a1 = some (.lst (sp.map .int)) ∧ H a2 = some (.lst (ps.map .int)) ∧ a1 ≠ a2 ∧
    Dp K (hid o H) gv g ∧ noLst g = true ∧ o a = some i ∧ o dx = some i ∧ o a1 = some i ∧ o a2 = some i
/-- lists of ours in a list of ours -/
def LLs (K : Fg) (B : Hp) (o : Addr → Option Nat) (H : Hp) (i : Nat) (p : Addr) (rs : List Addr) (dss : List (List Dt)) : Prop :=
  rs.Nodup ∧ p ∉ rs ∧ rs.length = dss.length ∧ ∀ (k : Nat) (r : Addr) (ds : List Dt), rs[k]? = some r → dss[k]? = some ds → o r = some i ∧ B r = none ∧ ∃ xs, H r = some (.lst xs) ∧ noLsts ds = true ∧ DpAll K (hid o H) xs ds
def CellOk (K : Fg) (B : Hp) (o : Addr → Option Nat) (H : Hp) (i : Nat) (s : Option (Option V)) : Cell → Prop
  | .no => True
  | .val d => ∃ v, s = some (some v) ∧ Dp K (hid o H) v d
  | .tl ds => ∃ p xs, s = some (some (.ref p)) ∧ hid o H p = some (.lst xs) ∧ DpAll K (hid o H) xs ds
  | .own ds => ∃ p xs, s = some (some (.ref p)) ∧ o p = some i ∧ B p = none ∧ H p = some (.lst xs) ∧ noLsts ds = true ∧ DpAll K (hid o H) xs ds
  | .dr p q => s = some (some (.ref p)) ∧ o p = some i ∧ o q = some i ∧ Dr H p q
  | .ob a g st sp ps => s = some (some (.ref a)) ∧ ObOk K o H i a g st sp ps
  | .er x => ∃ a, s = some (some (.ref a)) ∧ hid o H a = some (ExK (.ref (He.ga K x)) a)
  | .ll dss => ∃ p rs, s = some (some (.ref p)) ∧ o p = some i ∧ B p = none ∧ H p = some (.lst (rs.map V.ref)) ∧ LLs K B o H i p rs dss
/-- slots, cells and heap; B: the heap at the def's entry; M: what must stay -/
structure Rl (K : Fg) (B M : Hp) (o : Addr → Option Nat) (σ : L2.St) (ρ : MEnv) (H : Hp) : Prop where
  len : ρ.length = σ.length
  cell : ∀ i, CellOk K B o H i σ[i]? (at_ ρ i)
  keep : Ex M (hid o H)
  base : ∀ a, H a = none → B a = none
  live : ∀ a i, o a = some i → ∃ u, H a = some u ∧ (∀ xs, u ≠ .tup xs) ∧ ∀ b xs, u ≠ .frz b xs
section
variable {K : Fg} {B M : Hp} {o : Addr → Option Nat} {σ : L2.St} {ρ : MEnv} {H H' : Hp} {v : V} {d : Dt} {ds : List Dt} {p : Addr}
theorem hid_ex (e : Ex H H') : Ex (hid o H) (hid o H') := fun a u h => by
  unfold hid at h ⊢
  split at h
  · rename_i q
    rw [if_pos q]
    exact e a u h
  · cases h
theorem hid_le : Ex (hid o H) H := fun a u h => by
  unfold hid at h
  split at h
  · exact h
  · cases h
theorem hid_at {a : Addr} (h : o a = none) : hid o H a = H a := by unfold hid; rw [if_pos h]
theorem hid_of {a : Addr} {u : HO} (h : hid o H a = some u) : o a = none ∧ H a = some u := by
  unfold hid at h
  split at h
  · exact ⟨by assumption, h⟩
  · cases h
theorem Rl.fresh (R : Rl K B M o σ ρ H) (h : H p = none) : o p = none := by
  cases q : o p with
  | none => rfl
  | some i =>
    obtain ⟨u, hu, _⟩ := R.live p i q
    rw [h] at hu
    cases hu
theorem CellOk.ex {i : Nat} {s : Option (Option V)} {c : Cell} (e : Ex H H') (h : CellOk K B o H i s c) : CellOk K B o H' i s c := by
  cases c with
  | no => trivial
  | val d =>
    obtain ⟨v, h1, h2⟩ := h
    exact ⟨v, h1, dp_ex (hid_ex e) h2⟩
  | tl ds =>
    obtain ⟨p, xs, h1, h2, h3⟩ := h
    exact ⟨p, xs, h1, hid_ex e _ _ h2, dps_ex (hid_ex e) h3⟩
  | own ds =>
    obtain ⟨p, xs, h1, h2, h3, h4, h5, h6⟩ := h
    exact ⟨p, xs, h1, h2, h3, e _ _ h4, h5, dps_ex (hid_ex e) h6⟩
  | dr p q =>
    obtain ⟨h1, h2, h3, h4⟩ := h
    exact ⟨h1, h2, h3, h4.ex e⟩
  | ob a g st sp ps =>
    obtain ⟨h1, dx, a1, a2, gv, z1, z2, z3, z4, z5, z6, z7⟩ := h
    exact ⟨h1, dx, a1, a2, gv, e _ _ z1, e _ _ z2, e _ _ z3, e _ _ z4, z5, dp_ex (hid_ex e) z6, z7⟩
  | er x =>
    obtain ⟨a, h1, h2⟩ := h
    exact ⟨a, h1, hid_ex e _ _ h2⟩
  | ll dss =>
    obtain ⟨p, rs, h1, h2, h3, h4, h5, h6, h7, h8⟩ := h
    refine ⟨p, rs, h1, h2, h3, e _ _ h4, h5, h6, h7, fun k r ds hr hd => ?_⟩
    obtain ⟨z1, z2, xs, z3, z4, z5⟩ := h8 k r ds hr hd
    exact ⟨z1, z2, xs, e _ _ z3, z4, dps_ex (hid_ex e) z5⟩
theorem Rl.ex (e : Ex H H') (R : Rl K B M o σ ρ H) : Rl K B M o σ ρ H' := ⟨R.len, fun i => (R.cell i).ex e, fun a u h => hid_ex e _ _ (R.keep a u h), fun a h => R.base a (Evl.fresh_back e h), fun a i h => by
  obtain ⟨u, h1, h2⟩ := R.live a i h
  exact ⟨u, e _ _ h1, h2⟩⟩
theorem Rl.weak {M' : Hp} (e : Ex M M') (R : Rl K B M' o σ ρ H) : Rl K B M o σ ρ H := ⟨R.len, R.cell, fun a u h => R.keep a u (e a u h), R.base, R.live⟩
theorem Rl.strong (R : Rl K B M o σ ρ H) : Rl K B (hid o H) o σ ρ H := ⟨R.len, R.cell, ex_rfl, R.base, R.live⟩
/-- all but lists, instances and draws is not ours -/
theorem hid_t (R : Rl K B M o σ ρ H) {a : Addr} {xs : List V} (h : SqT K H a xs) : SqT K (hid o H) a xs := by
  have key : ∀ u, H a = some u → ((∃ xs, u = .tup xs) ∨ ∃ b xs, u = .frz b xs) → hid o H a = some u := fun u hu hn => by
    cases q : o a with
    | none => rw [hid_at q]; exact hu
    | some i =>
      obtain ⟨u', h1, h2, h3⟩ := R.live a i q
      rw [hu] at h1
      cases h1
      rcases hn with ⟨xs, rfl⟩ | ⟨b, xs, rfl⟩
      · exact absurd rfl (h2 xs)
      · exact absurd rfl (h3 b xs)
  rcases h with (h | ⟨b, h⟩) | h
  · exact .inl (.inl (key _ h (.inl ⟨_, rfl⟩)))
  · exact .inl (.inr ⟨b, key _ h (.inr ⟨_, _, rfl⟩)⟩)
  · exact .inr h
mutual
theorem dp_hid (R : Rl K B M o σ ρ H) : ∀ {d : Dt} {v : V}, noLst d = true → Dp K H v d → Dp K (hid o H) v d
  | .none, _, _, h => by cases h; exact .non
  | .bool _, _, _, h => by cases h; exact .bl _
  | .int _, _, _, h => by cases h; exact .int _
  | .str _, _, _, h => by cases h; exact .str _
  | .list _, _, n, _ => by simp [noLst] at n
  | .tuple _, _, n, h => by
    rw [noLst] at n
    cases h with
    | tup a b => exact .tup (hid_t R a) (dps_hid R n b)
  | .dict _, _, _, h => by cases h
theorem dps_hid (R : Rl K B M o σ ρ H) : ∀ {ds : List Dt} {vs : List V}, noLsts ds = true → DpAll K H vs ds → DpAll K (hid o H) vs ds
  | [], _, _, h => by cases h; exact .nil
  | _ :: _, _, n, h => by
    rw [noLsts, Bool.and_eq_true] at n
    cases h with
    | cons a b => exact .cons (dp_hid R n.1 a) (dps_hid R n.2 b)
end
end
/-! ### outcomes -/
def O.go {α : Type} (r : O α) (k : α → Prop) (x : Str → Prop) : Prop := match r with
  | .ok a => k a
  | .ex e => x e
  | .no => False
theorem O.go_bind {α β : Type} {r : O α} {f : α → O β} {k : β → Prop} {x : Str → Prop} : (r.bind f).go k x ↔ r.go (fun a => (f a).go k x) x := by
  cases r <;> exact Iff.rfl
theorem O.go_mono {α : Type} {r : O α} {k k' : α → Prop} {x x' : Str → Prop} (h : r.go k x) (hk : ∀ a, k a → k' a) (hx : ∀ e, x e → x' e) : r.go k' x' := by
  cases r with
  | ok a => exact hk a h
  | ex e => exact hx e h
  | no => exact h
/-! ### kinds of values -/
abbrev KD := Hp → Hp → V → Dt → Prop
def Kt (K : Fg) : KD := fun _ H2 v d => Dp K H2 v d
def FzOk (K : Fg) (o : Addr → Option Nat) (H2 : Hp) (v : V) : Dt → Prop
  | .list ds => ∃ p xs, v = .ref p ∧ hid o H2 p = some (.lst xs) ∧ DpAll K (hid o H2) xs ds
  | d => Dp K (hid o H2) v d
def Kf (K : Fg) (o : Addr → Option Nat) : KD := fun _ H2 v d => FzOk K o H2 v d
def Kg (K : Fg) (o : Addr → Option Nat) : KD := fun _ H2 v d => Dp K (hid o H2) v d
def Kl (K : Fg) : KD := fun _ H2 v d => ∃ p xs ds, v = .ref p ∧ d = .list ds ∧ H2 p = some (.lst xs) ∧ DpAll K H2 xs ds
def Kn (K : Fg) : KD := fun H1 H2 v d => ∃ p xs ds, v = .ref p ∧ d = .list ds ∧ H1 p = none ∧ H2 p = some (.lst xs) ∧ DpAll K H2 xs ds
abbrev XS := L2.St → XK
section
variable {K : Fg} {o : Addr → Option Nat} {H1 H2 H3 : Hp} {v : V} {d : Dt}
theorem FzOk.dp (h : FzOk K o H2 v d) : Dp K (hid o H2) v d := by
  cases d with
  | list ds =>
    obtain ⟨p, xs, rfl, h1, h2⟩ := h
    exact .lst (SqL.of h1) h2
  | _ => exact h
theorem FzOk.ex (e : Ex H2 H3) (h : FzOk K o H2 v d) : FzOk K o H3 v d := by
  cases d with
  | list ds =>
    obtain ⟨p, xs, rfl, h1, h2⟩ := h
    exact ⟨p, xs, rfl, hid_ex e _ _ h1, dps_ex (hid_ex e) h2⟩
  | none => exact dp_ex (hid_ex e) h
  | bool b => exact dp_ex (hid_ex e) h
  | int b => exact dp_ex (hid_ex e) h
  | str b => exact dp_ex (hid_ex e) h
  | tuple b => exact dp_ex (hid_ex e) h
  | dict b => exact dp_ex (hid_ex e) h
theorem FzOk.cell {B : Hp} {i : Nat} (h : FzOk K o H2 v d) : CellOk K B o H2 i (some (some v)) (cellOf d) := by
  cases d with
  | list ds =>
    obtain ⟨p, xs, rfl, h1, h2⟩ := h
    exact ⟨p, xs, rfl, h1, h2⟩
  | none => exact ⟨v, rfl, h⟩
  | bool b => exact ⟨v, rfl, h⟩
  | int b => exact ⟨v, rfl, h⟩
  | str b => exact ⟨v, rfl, h⟩
  | tuple b => exact ⟨v, rfl, h⟩
  | dict b => exact ⟨v, rfl, h⟩
theorem kf_t (h : Kf K o H1 H2 v d) : Kt K H1 H2 v d := dp_ex hid_le h.dp
theorem kl_t (h : Kl K H1 H2 v d) : Kt K H1 H2 v d := by
  obtain ⟨p, xs, ds, rfl, rfl, h1, h2⟩ := h
  exact .lst (SqL.of h1) h2
theorem kn_l (h : Kn K H1 H2 v d) : Kl K H1 H2 v d := by
  obtain ⟨p, xs, ds, rfl, rfl, h0, h1, h2⟩ := h
  exact ⟨p, xs, ds, rfl, rfl, h1, h2⟩
theorem kf_l (h : Kf K o H1 H2 v d) (hd : ∃ ds, d = .list ds) : Kl K H1 H2 v d := by
  obtain ⟨ds, rfl⟩ := hd
  obtain ⟨p, xs, rfl, h1, h2⟩ := h
  exact ⟨p, xs, ds, rfl, rfl, hid_le _ _ h1, dps_ex hid_le h2⟩
theorem fz_nolst {B M : Hp} {σ : L2.St} {ρ : MEnv} (R : Rl K B M o σ ρ H2) (n : noLst d = true) (h : Dp K H2 v d) : FzOk K o H2 v d := by
  have := dp_hid R n h
  cases d with
  | list ds => simp [noLst] at n
  | _ => exact this
end
/-- the reading gives what the mirror says -/
def YQ (K : Fg) (E : XK) (Φ : KD) (te : TE) (σ : L2.St) (H : Hp) (r : O Dt) : Prop :=
  ∀ H1, Ex H H1 → ∀ Q : VK, r.go (fun d => ∀ v H2, Ex H1 H2 → Φ H1 H2 v d → Q v H2) (fun x => ∀ H2, Ex H1 H2 → E (.ref (He.ga K x)) none H2) → te σ H1 Q
def YT (K : Fg) (E : XS) (te : TE) (m : MP) : Prop := ∀ B M o σ ρ H, Rl K B M o σ ρ H → YQ K (E σ) (Kt K) te σ H (m ρ)
def YF (K : Fg) (E : XS) (te : TE) (m : MP) : Prop := ∀ B M o σ ρ H, Rl K B M o σ ρ H → YQ K (E σ) (Kf K o) te σ H (m ρ)
def YG (K : Fg) (E : XS) (te : TE) (m : MP) : Prop := ∀ B M o σ ρ H, Rl K B M o σ ρ H → YQ K (E σ) (Kg K o) te σ H (m ρ)
def YL (K : Fg) (E : XS) (te : TE) (m : MP) : Prop := ∀ B M o σ ρ H, Rl K B M o σ ρ H → YQ K (E σ) (Kl K) te σ H (m ρ)
def YN (K : Fg) (E : XS) (te : TE) (m : MP) : Prop := ∀ B M o σ ρ H, Rl K B M o σ ρ H → YQ K (E σ) (Kn K) te σ H (m ρ)
/-- arguments -/
def YA (K : Fg) (E : XS) (ta : TA) (m : MA) : Prop := ∀ B M o σ ρ H, Rl K B M o σ ρ H → ∀ H1, Ex H H1 → ∀ Q : List V → Hp → Prop,
  (m ρ).go (fun ds => ∀ vs H2, Ex H1 H2 → DpAll K H2 vs ds → Q vs H2) (fun x => ∀ H2, Ex H1 H2 → E σ (.ref (He.ga K x)) none H2) → ta σ H1 Q
/-- .. that stay -/
def YAF (K : Fg) (E : XS) (ta : TA) (m : MA) : Prop := ∀ B M o σ ρ H, Rl K B M o σ ρ H → ∀ H1, Ex H H1 → ∀ Q : List V → Hp → Prop,
  (m ρ).go (fun ds => ∀ vs H2, Ex H1 H2 → DpAll K (hid o H2) vs ds → Q vs H2) (fun x => ∀ H2, Ex H1 H2 → E σ (.ref (He.ga K x)) none H2) → ta σ H1 Q
/-- tests -/
def YB (K : Fg) (E : XS) (tt : TT) (m : MB) : Prop := ∀ B M o σ ρ H, Rl K B M o σ ρ H → ∀ H1, Ex H H1 → ∀ Q : Bool → Hp → Prop,
  (m ρ).go (fun b => ∀ H2, Ex H1 H2 → Q b H2) (fun x => ∀ H2, Ex H1 H2 → E σ (.ref (He.ga K x)) none H2) → tt σ H1 Q
def YO (K : Fg) (E : XS) (to : TO) (m : MEnv → O (Option Int)) : Prop := ∀ B M o σ ρ H, Rl K B M o σ ρ H → ∀ H1, Ex H H1 → ∀ Q : Option Int → Hp → Prop,
  (m ρ).go (fun b => ∀ H2, Ex H1 H2 → Q b H2) (fun x => ∀ H2, Ex H1 H2 → E σ (.ref (He.ga K x)) none H2) → to σ H1 Q
section
variable {K : Fg} {E : XS} {ta tb tc td te to : TE} {t u : TT} {a b c e m : MP} {tl th : TO}
theorem yt_f (h : YF K E te m) : YT K E te m := fun B M o σ ρ H R H1 e1 Q k => h B M o σ ρ H R H1 e1 Q (O.go_mono k (fun d z v H2 e2 p => z v H2 e2 (kf_t (H1 := H1) p)) fun _ z => z)
theorem yt_l (h : YL K E te m) : YT K E te m := fun B M o σ ρ H R H1 e1 Q k => h B M o σ ρ H R H1 e1 Q (O.go_mono k (fun d z v H2 e2 p => z v H2 e2 (kl_t p)) fun _ z => z)
theorem yl_n (h : YN K E te m) : YL K E te m := fun B M o σ ρ H R H1 e1 Q k => h B M o σ ρ H R H1 e1 Q (O.go_mono k (fun d z v H2 e2 p => z v H2 e2 (kn_l p)) fun _ z => z)
theorem yt_n (h : YN K E te m) : YT K E te m := yt_l (yl_n h)
theorem yg_f (h : YF K E te m) : YG K E te m := fun B M o σ ρ H R H1 e1 Q k => h B M o σ ρ H R H1 e1 Q (O.go_mono k (fun d z v H2 e2 p => z v H2 e2 (FzOk.dp p)) fun _ z => z)
theorem yg_var {i : Nat} : YG K E (tVar i) (pGv i) := fun B M o σ ρ H R H1 e1 Q k => by
  have h := (R.ex e1).cell i
  unfold pGv at k
  generalize at_ ρ i = c at h k
  cases c with
  | val d =>
    obtain ⟨v, h1, h2⟩ := h
    exact ⟨v, h1, k v H1 ex_rfl h2⟩
  | tl ds =>
    obtain ⟨p, xs, h1, h2, h3⟩ := h
    exact ⟨_, h1, k _ H1 ex_rfl (Dp.lst (SqL.of h2) h3)⟩
  | _ => exact k.elim
/-- nothing of a list within: it stays -/
theorem yf_t (h : YT K E te m) : YF K E te (pFz m) := fun B M o σ ρ H R H1 e1 Q k => h B M o σ ρ H R H1 e1 Q (O.go_mono (O.go_bind.mp k) (fun d z v H2 e2 p => by
  unfold gFz at z
  split at z
  · rename_i n
    exact z v H2 e2 (fz_nolst (R.ex (e1.trans e2)) n p)
  · exact z.elim) fun _ z => z)
theorem yf_n (h : YN K E te m) : YF K E te (pFn m) := fun B M o σ ρ H R H1 e1 Q k => h B M o σ ρ H R H1 e1 Q (O.go_mono (O.go_bind.mp k) (fun d z v H2 e2 p => by
  obtain ⟨p, xs, ds, rfl, rfl, h0, h1, h2⟩ := p
  unfold gFn at z
  dsimp only at z
  split at z
  · rename_i n
    have R2 := R.ex (e1.trans e2)
    exact z _ H2 e2 ⟨p, xs, rfl, by rw [hid_at ((R.ex e1).fresh h0)]; exact h1, dps_hid R2 n h2⟩
  · exact z.elim) fun _ z => z)
theorem yt_var {i : Nat} : YT K E (tVar i) (pVar i) := fun B M o σ ρ H R H1 e1 Q k => by
  have h := (R.ex e1).cell i
  unfold pVar at k
  generalize at_ ρ i = c at h k
  cases c with
  | val d =>
    obtain ⟨v, h1, h2⟩ := h
    exact ⟨v, h1, k v H1 ex_rfl (dp_ex hid_le h2)⟩
  | tl ds =>
    obtain ⟨p, xs, h1, h2, h3⟩ := h
    exact ⟨_, h1, k _ H1 ex_rfl (Dp.lst (SqL.of (hid_le _ _ h2)) (dps_ex hid_le h3))⟩
  | own ds =>
    obtain ⟨p, xs, h1, h2, h3, h4, h5, h6⟩ := h
    exact ⟨_, h1, k _ H1 ex_rfl (Dp.lst (SqL.of h4) (dps_ex hid_le h6))⟩
  | _ => exact k.elim
theorem yf_var {i : Nat} : YF K E (tVar i) (pVal i) := fun B M o σ ρ H R H1 e1 Q k => by
  have h := (R.ex e1).cell i
  unfold pVal at k
  generalize at_ ρ i = c at h k
  cases c with
  | val d =>
    obtain ⟨v, h1, h2⟩ := h
    refine ⟨v, h1, ?_⟩
    cases d with
    | list ds => exact k.elim
    | none => exact k v H1 ex_rfl h2
    | bool b => exact k v H1 ex_rfl h2
    | int b => exact k v H1 ex_rfl h2
    | str b => exact k v H1 ex_rfl h2
    | tuple b => exact k v H1 ex_rfl h2
    | dict b => exact k v H1 ex_rfl h2
  | tl ds =>
    obtain ⟨p, xs, h1, h2, h3⟩ := h
    exact ⟨_, h1, k _ H1 ex_rfl ⟨p, xs, rfl, h2, h3⟩⟩
  | _ => exact k.elim
end
/-- a list that stands somewhere tracked -/
def cellL : Cell → O Dt
  | .tl ds => .ok (.list ds)
  | .own ds => .ok (.list ds)
  | _ => .no
@[simp] theorem cellL_tl {ds : List Dt} : cellL (.tl ds) = .ok (.list ds) := rfl
@[simp] theorem cellL_own {ds : List Dt} : cellL (.own ds) = .ok (.list ds) := rfl
def pLv (i : Nat) : MP := fun ρ => cellL (at_ ρ i)
section
variable {K : Fg} {E : XS} {ta tb tc td te to : TE} {t u : TT} {a b c e m : MP} {tl th : TO}
theorem yl_var {i : Nat} : YL K E (tVar i) (pLv i) := fun B M o σ ρ H R H1 e1 Q k => by
  have h := (R.ex e1).cell i
  unfold pLv at k
  generalize at_ ρ i = c at h k
  cases c with
  | tl ds =>
    obtain ⟨p, xs, h1, h2, h3⟩ := h
    exact ⟨_, h1, k _ H1 ex_rfl ⟨p, xs, ds, rfl, rfl, hid_le _ _ h2, dps_ex hid_le h3⟩⟩
  | own ds =>
    obtain ⟨p, xs, h1, h2, h3, h4, h5, h6⟩ := h
    exact ⟨_, h1, k _ H1 ex_rfl ⟨p, xs, ds, rfl, rfl, h4, dps_ex hid_le h6⟩⟩
  | _ => exact k.elim
theorem yt_c {v : V} {d : Dt} (h : ∀ H, Dp K H v d) : YT K E (tC v) (pC d) := fun B M o σ ρ H R H1 e1 Q k => k v H1 ex_rfl (h H1)
theorem yt_int {i : Int} : YT K E (tC (.int i)) (pC (.int i)) := yt_c fun _ => .int i
theorem yt_str {i : Str} : YT K E (tC (.str i)) (pC (.str i)) := yt_c fun _ => .str i
theorem yt_bl {i : Bool} : YT K E (tC (.bl i)) (pC (.bool i)) := yt_c fun _ => .bl i
theorem yt_non : YT K E (tC .non) (pC .none) := yt_c fun _ => .non
theorem yf_int {i : Int} : YF K E (tC (.int i)) (pC (.int i)) := fun B M o σ ρ H R H1 e1 Q k => k _ H1 ex_rfl (.int i)
theorem yf_str {i : Str} : YF K E (tC (.str i)) (pC (.str i)) := fun B M o σ ρ H R H1 e1 Q k => k _ H1 ex_rfl (.str i)
theorem yf_bl {i : Bool} : YF K E (tC (.bl i)) (pC (.bool i)) := fun B M o σ ρ H R H1 e1 Q k => k _ H1 ex_rfl (.bl i)
theorem yf_non : YF K E (tC .non) (pC .none) := fun B M o σ ρ H R H1 e1 Q k => k _ H1 ex_rfl .non
/-- what an operator gives -/
def Hr (K : Fg) (r : R2) (h : Dt → Dt → O Dt) : Prop := ∀ d e, (∀ x, h d e ≠ .ex x) ∧ ∀ z, h d e = .ok z → Rd2 K r d e z
theorem yt_op {r : R2} {h : Dt → Dt → O Dt} (ha : YT K E ta a) (hb : YT K E tb b) (hr : Hr K r h) : YT K E (tOp r ta tb) (pOp h a b) := fun B M o σ ρ H R H1 e1 Q k =>
  ha B M o σ ρ H R H1 e1 _ (O.go_mono (O.go_bind.mp k) (fun x kx v H2 e2 p2 => hb B M o σ ρ H R H2 (e1.trans e2) _ (O.go_mono (O.go_bind.mp kx) (fun y ky u H3 e3 p3 => by
    obtain ⟨h1, h2⟩ := hr x y
    cases q : h x y with
    | ok z =>
      rw [q] at ky
      exact h2 z q v u H3 Q (dp_ex e3 p2) p3 fun v' H4 e4 p4 => ky v' H4 ((e2.trans e3).trans e4) p4
    | ex z => exact absurd q (h1 z)
    | no => rw [q] at ky; exact ky.elim) fun x z H3 e3 => z H3 (e2.trans e3))) fun _ z => z)
def Hu (K : Fg) (r : V → Hp → VK → Prop) (h : Dt → O Dt) : Prop := ∀ d, (∀ x, h d ≠ .ex x) ∧ ∀ z, h d = .ok z → Rd1 K r d z
theorem yt_un {r : V → Hp → VK → Prop} {h : Dt → O Dt} (ha : YT K E ta a) (hr : Hu K r h) : YT K E (tUn r ta) (pUn h a) := fun B M o σ ρ H R H1 e1 Q k =>
  ha B M o σ ρ H R H1 e1 _ (O.go_mono (O.go_bind.mp k) (fun x kx v H2 e2 p2 => by
    obtain ⟨h1, h2⟩ := hr x
    cases q : h x with
    | ok z =>
      rw [q] at kx
      exact h2 z q v H2 Q p2 fun v' H4 e4 p4 => kx v' H4 (e2.trans e4) p4
    | ex z => exact absurd q (h1 z)
    | no => rw [q] at kx; exact kx.elim) fun _ z => z)
theorem ya_nl : YA K E tNil aNil := fun B M o σ ρ H R H1 e1 Q k => k [] H1 ex_rfl .nil
theorem ya_cs {tr : TA} {r : MA} (ha : YT K E ta a) (hr : YA K E tr r) : YA K E (tCons ta tr) (aCons a r) := fun B M o σ ρ H R H1 e1 Q k =>
  ha B M o σ ρ H R H1 e1 _ (O.go_mono (O.go_bind.mp k) (fun x kx v H2 e2 p2 => hr B M o σ ρ H R H2 (e1.trans e2) _ (O.go_mono (O.go_bind.mp kx) (fun xs ks vs H3 e3 p3 => ks (v :: vs) H3 (e2.trans e3) (.cons (dp_ex e3 p2) p3)) fun x z H3 e3 => z H3 (e2.trans e3))) fun _ z => z)
theorem yaf_nl : YAF K E tNil aNil := fun B M o σ ρ H R H1 e1 Q k => k [] H1 ex_rfl .nil
theorem yaf_cs {tr : TA} {r : MA} (ha : YF K E ta a) (hr : YAF K E tr r) : YAF K E (tCons ta tr) (aCons a r) := fun B M o σ ρ H R H1 e1 Q k =>
  ha B M o σ ρ H R H1 e1 _ (O.go_mono (O.go_bind.mp k) (fun x kx v H2 e2 p2 => hr B M o σ ρ H R H2 (e1.trans e2) _ (O.go_mono (O.go_bind.mp kx) (fun xs ks vs H3 e3 p3 => ks (v :: vs) H3 (e2.trans e3) (.cons (dp_ex (hid_ex e3) (FzOk.dp p2)) p3)) fun x z H3 e3 => z H3 (e2.trans e3))) fun _ z => z)
theorem yt_tup {tr : TA} {r : MA} (h : YA K E tr r) : YT K E (tTup tr) (pTup r) := fun B M o σ ρ H R H1 e1 Q k => h B M o σ ρ H R H1 e1 _ (O.go_mono (O.go_bind.mp k) (fun ds kx vs H2 e2 p2 => by
  split at kx
  · rename_i hl
    exact ⟨Evl.sz_of (by rw [dps_len p2]; exact hl), fun p hp => kx _ _ (e2.trans (Evl.Ex.new hp)) (Dp.tup (.inl (.inl upd_same)) (dps_ex (Evl.Ex.new hp) p2))⟩
  · exact kx.elim) fun _ z => z)
theorem yf_tup {tr : TA} {r : MA} (h : YAF K E tr r) : YF K E (tTup tr) (pTup r) := fun B M o σ ρ H R H1 e1 Q k => h B M o σ ρ H R H1 e1 _ (O.go_mono (O.go_bind.mp k) (fun ds kx vs H2 e2 p2 => by
  split at kx
  · rename_i hl
    refine ⟨Evl.sz_of (by rw [dps_len p2]; exact hl), fun p hp => kx _ _ (e2.trans (Evl.Ex.new hp)) (Dp.tup (.inl (.inl ?_)) (dps_ex (hid_ex (Evl.Ex.new hp)) p2))⟩
    rw [hid_at ((R.ex (e1.trans e2)).fresh hp)]
    exact upd_same
  · exact kx.elim) fun _ z => z)
theorem yn_lst' {tr : TA} {r : MA} (h : YA K E tr r) : YN K E (tLst tr) (pLst r) := fun B M o σ ρ H R H1 e1 Q k => h B M o σ ρ H R H1 e1 _ (O.go_mono (O.go_bind.mp k) (fun ds kx vs H2 e2 p2 => by
  split at kx
  · rename_i hl
    exact ⟨Evl.sz_of (by rw [dps_len p2]; exact hl), fun p hp => kx _ _ (e2.trans (Evl.Ex.new hp)) ⟨p, vs, ds, rfl, rfl, Evl.fresh_back e2 hp, upd_same, dps_ex (Evl.Ex.new hp) p2⟩⟩
  · exact kx.elim) fun _ z => z)
theorem yf_lst {tr : TA} {r : MA} (h : YAF K E tr r) : YF K E (tLst tr) (pLst r) := fun B M o σ ρ H R H1 e1 Q k => h B M o σ ρ H R H1 e1 _ (O.go_mono (O.go_bind.mp k) (fun ds kx vs H2 e2 p2 => by
  split at kx
  · rename_i hl
    refine ⟨Evl.sz_of (by rw [dps_len p2]; exact hl), fun p hp => kx _ _ (e2.trans (Evl.Ex.new hp)) ⟨p, vs, rfl, ?_, dps_ex (hid_ex (Evl.Ex.new hp)) p2⟩⟩
    rw [hid_at ((R.ex (e1.trans e2)).fresh hp)]
    exact upd_same
  · exact kx.elim) fun _ z => z)
def Hc (K : Fg) (r : List V → Hp → VK → Prop) (h : List Dt → O Dt) : Prop := ∀ ds, (∀ x, h ds ≠ .ex x) ∧ ∀ z, h ds = .ok z → RdC K r ds z
theorem yt_cb {r : List V → Hp → VK → Prop} {h : List Dt → O Dt} {tr : TA} {ma : MA} (ha : YA K E tr ma) (hr : Hc K r h) : YT K E (tCB r tr) (pCB h ma) := fun B M o σ ρ H R H1 e1 Q k =>
  ha B M o σ ρ H R H1 e1 _ (O.go_mono (O.go_bind.mp k) (fun x kx v H2 e2 p2 => by
    obtain ⟨h1, h2⟩ := hr x
    cases q : h x with
    | ok z =>
      rw [q] at kx
      exact h2 z q v H2 Q p2 fun v' H4 e4 p4 => kx v' H4 (e2.trans e4) p4
    | ex z => exact absurd q (h1 z)
    | no => rw [q] at kx; exact kx.elim) fun _ z => z)
def Hcn (K : Fg) (r : List V → Hp → VK → Prop) (h : List Dt → O Dt) : Prop := ∀ ds, (∀ x, h ds ≠ .ex x) ∧ ∀ z, h ds = .ok z → ∃ zs, z = .list zs ∧ RnC K r ds zs
theorem yn_cb' {r : List V → Hp → VK → Prop} {h : List Dt → O Dt} {tr : TA} {ma : MA} (ha : YA K E tr ma) (hr : Hcn K r h) : YN K E (tCB r tr) (pCB h ma) := fun B M o σ ρ H R H1 e1 Q k =>
  ha B M o σ ρ H R H1 e1 _ (O.go_mono (O.go_bind.mp k) (fun x kx v H2 e2 p2 => by
    obtain ⟨h1, h2⟩ := hr x
    cases q : h x with
    | ok z =>
      rw [q] at kx
      obtain ⟨zs, rfl, h3⟩ := h2 z q
      exact h3 v H2 Q p2 fun p xs H4 hp e4 h4 p4 => kx _ H4 (e2.trans e4) ⟨p, xs, zs, rfl, rfl, Evl.fresh_back e2 hp, h4, p4⟩
    | ex z => exact absurd q (h1 z)
    | no => rw [q] at kx; exact kx.elim) fun _ z => z)
/-- calls -/
theorem yt_call {m : MF} {tr : TA} {ma : MA} (ha : YA K E tr ma) : YT K E (fun σ => tCall (spF K (FM m)) [] (E σ) tr σ) (pCall m ma) := fun B M o σ ρ H R H1 e1 Q k =>
  ha B M o σ ρ H R H1 e1 _ (O.go_mono (O.go_bind.mp k) (fun ds kx vs H2 e2 p2 => by
    rw [List.append_nil]
    cases q : m ds with
    | ok r =>
      rw [q] at kx
      cases r with
      | val d => exact ⟨ds, .val d, p2, by unfold FM; rw [q], fun v H3 e3 p3 => kx v H3 (e2.trans e3) p3⟩
      | new es => exact ⟨ds, .new es, p2, by unfold FM; rw [q], fun p xs H3 hp e3 h3 p3 => kx _ H3 (e2.trans e3) (Dp.lst (SqL.of h3) p3)⟩
      | ob _ _ _ _ => exact kx.elim
    | ex x =>
      rw [q] at kx
      exact ⟨ds, .exc x, p2, by unfold FM; rw [q], fun H3 e3 => kx H3 (e2.trans e3)⟩
    | no => rw [q] at kx; exact kx.elim) fun _ z => z)
theorem yn_call' {m : MF} {tr : TA} {ma : MA} (ha : YA K E tr ma) : YN K E (fun σ => tCall (spF K (FM m)) [] (E σ) tr σ) (pCallN m ma) := fun B M o σ ρ H R H1 e1 Q k =>
  ha B M o σ ρ H R H1 e1 _ (O.go_mono (O.go_bind.mp k) (fun ds kx vs H2 e2 p2 => by
    rw [List.append_nil]
    cases q : m ds with
    | ok r =>
      rw [q] at kx
      cases r with
      | val d => exact kx.elim
      | new es => exact ⟨ds, .new es, p2, by unfold FM; rw [q], fun p xs H3 hp e3 h3 p3 => kx _ H3 (e2.trans e3) ⟨p, xs, es, rfl, rfl, Evl.fresh_back e2 hp, h3, p3⟩⟩
      | ob _ _ _ _ => exact kx.elim
    | ex x =>
      rw [q] at kx
      exact ⟨ds, .exc x, p2, by unfold FM; rw [q], fun H3 e3 => kx H3 (e2.trans e3)⟩
    | no => rw [q] at kx; exact kx.elim) fun _ z => z)
/-- choices and tests -/
theorem yq_if {Φ : (Addr → Option Nat) → KD} (hΦ : ∀ o {H1 H2 H3 v d}, Ex H1 H2 → Φ o H2 H3 v d → Φ o H1 H3 v d) (ht : YB K E t u') (ha : ∀ B M o σ ρ H, Rl K B M o σ ρ H → YQ K (E σ) (Φ o) ta σ H (a ρ)) (hb : ∀ B M o σ ρ H, Rl K B M o σ ρ H → YQ K (E σ) (Φ o) tb σ H (b ρ)) :
    ∀ B M o σ ρ H, Rl K B M o σ ρ H → YQ K (E σ) (Φ o) (tIf t ta tb) σ H (pIf u' a b ρ) := fun B M o σ ρ H R H1 e1 Q k =>
  ht B M o σ ρ H R H1 e1 _ (O.go_mono (O.go_bind.mp k) (fun c kx H2 e2 => by
    cases c with
    | true => exact ha B M o σ ρ H R H2 (e1.trans e2) Q (O.go_mono kx (fun d z v H3 e3 p => z v H3 (e2.trans e3) (hΦ o e2 p)) fun x z H3 e3 => z H3 (e2.trans e3))
    | false => exact hb B M o σ ρ H R H2 (e1.trans e2) Q (O.go_mono kx (fun d z v H3 e3 p => z v H3 (e2.trans e3) (hΦ o e2 p)) fun x z H3 e3 => z H3 (e2.trans e3))) fun _ z => z)
theorem yt_if {u' : MB} (ht : YB K E t u') (ha : YT K E ta a) (hb : YT K E tb b) : YT K E (tIf t ta tb) (pIf u' a b) := yq_if (Φ := fun _ => Kt K) (fun _ _ _ _ _ _ _ h => h) ht ha hb
theorem yf_if {u' : MB} (ht : YB K E t u') (ha : YF K E ta a) (hb : YF K E tb b) : YF K E (tIf t ta tb) (pIf u' a b) := yq_if (Φ := Kf K) (fun _ _ _ _ _ _ _ h => h) ht ha hb
theorem yn_if' {u' : MB} (ht : YB K E t u') (ha : YN K E ta a) (hb : YN K E tb b) : YN K E (tIf t ta tb) (pIf u' a b) := yq_if (Φ := fun _ => Kn K) (fun _ _ _ _ _ _ e h => by
  obtain ⟨p, xs, ds, h1, h2, h3, h4⟩ := h
  exact ⟨p, xs, ds, h1, h2, Evl.fresh_back e h3, h4⟩) ht ha hb
theorem yb_test (h : YT K E te m) : YB K E (tTest te) (bTest m) := fun B M o σ ρ H R H1 e1 Q k => h B M o σ ρ H R H1 e1 _ (O.go_mono (O.go_bind.mp k) (fun d kx v H2 e2 p => by
  cases d with
  | bool b => exact ⟨b, dp_bl p, kx H2 e2⟩
  | _ => exact kx.elim) fun _ z => z)
theorem yb_B (h : YT K E te m) : YB K E (tB te) (bTest m) := fun B M o σ ρ H R H1 e1 Q k => h B M o σ ρ H R H1 e1 _ (O.go_mono (O.go_bind.mp k) (fun d kx v H2 e2 p => by
  cases d with
  | bool b => exact ⟨b, dp_bl p, kx H2 e2⟩
  | _ => exact kx.elim) fun _ z => z)
theorem yb_yes : YB K E tYes bYes := fun B M o σ ρ H R H1 e1 Q k => k H1 ex_rfl
theorem yb_and {x y : MB} (h1 : YB K E t x) (h2 : YB K E u y) : YB K E (tAnd t u) (bAnd x y) := fun B M o σ ρ H R H1 e1 Q k => h1 B M o σ ρ H R H1 e1 _ (O.go_mono (O.go_bind.mp k) (fun c kx H2 e2 => by
  cases c with
  | true => exact h2 B M o σ ρ H R H2 (e1.trans e2) Q (O.go_mono kx (fun d z H3 e3 => z H3 (e2.trans e3)) fun x z H3 e3 => z H3 (e2.trans e3))
  | false => exact kx H2 e2) fun _ z => z)
theorem yb_or {x y : MB} (h1 : YB K E t x) (h2 : YB K E u y) : YB K E (tOr t u) (bOr x y) := fun B M o σ ρ H R H1 e1 Q k => h1 B M o σ ρ H R H1 e1 _ (O.go_mono (O.go_bind.mp k) (fun c kx H2 e2 => by
  cases c with
  | false => exact h2 B M o σ ρ H R H2 (e1.trans e2) Q (O.go_mono kx (fun d z H3 e3 => z H3 (e2.trans e3)) fun x z H3 e3 => z H3 (e2.trans e3))
  | true => exact kx H2 e2) fun _ z => z)
theorem yb_not {x : MB} (h1 : YB K E t x) : YB K E (tNot t) (bNot x) := fun B M o σ ρ H R H1 e1 Q k => h1 B M o σ ρ H R H1 e1 _ (O.go_mono (O.go_bind.mp k) (fun c kx H2 e2 => kx H2 e2) fun _ z => z)
theorem yt_andV (h1 : YT K E ta a) (h2 : YT K E tb b) : YT K E (tAndV ta tb) (pAnd a b) := fun B M o σ ρ H R H1 e1 Q k => h1 B M o σ ρ H R H1 e1 _ (O.go_mono (O.go_bind.mp (O.go_bind.mp (O.go_bind.mp k))) (fun d kx v H2 e2 p => by
  cases d with
  | bool c =>
    refine ⟨c, dp_bl p, ?_⟩
    cases c with
    | true => exact h2 B M o σ ρ H R H2 (e1.trans e2) Q (O.go_mono (O.go_bind.mp kx) (fun d z v H3 e3 p => by
        cases d with
        | bool c => exact z v H3 (e2.trans e3) p
        | _ => exact z.elim) fun x z H3 e3 => z H3 (e2.trans e3))
    | false => exact kx _ H2 e2 (.bl _)
  | _ => exact kx.elim) fun _ z => z)
theorem yt_orV (h1 : YT K E ta a) (h2 : YT K E tb b) : YT K E (tOrV ta tb) (pOr a b) := fun B M o σ ρ H R H1 e1 Q k => h1 B M o σ ρ H R H1 e1 _ (O.go_mono (O.go_bind.mp (O.go_bind.mp (O.go_bind.mp k))) (fun d kx v H2 e2 p => by
  cases d with
  | bool c =>
    refine ⟨c, dp_bl p, ?_⟩
    cases c with
    | false => exact h2 B M o σ ρ H R H2 (e1.trans e2) Q (O.go_mono (O.go_bind.mp kx) (fun d z v H3 e3 p => by
        cases d with
        | bool c => exact z v H3 (e2.trans e3) p
        | _ => exact z.elim) fun x z H3 e3 => z H3 (e2.trans e3))
    | true => exact kx _ H2 e2 (.bl _)
  | _ => exact kx.elim) fun _ z => z)
theorem yt_notV (h1 : YT K E ta a) : YT K E (tNotV ta) (pNot a) := fun B M o σ ρ H R H1 e1 Q k => h1 B M o σ ρ H R H1 e1 _ (O.go_mono (O.go_bind.mp (O.go_bind.mp (O.go_bind.mp k))) (fun d kx v H2 e2 p => by
  cases d with
  | bool c => exact ⟨c, dp_bl p, kx _ H2 e2 (.bl _)⟩
  | _ => exact kx.elim) fun _ z => z)
theorem yt_chain {r r' : R2} {h h' : Dt → Dt → O Dt} (ha : YT K E ta a) (hb : YT K E tb b) (hc : YT K E tc c) (hr : Hr K r h) (hr' : Hr K r' h') : YT K E (tChain r r' ta tb tc) (pChain h h' a b c) := fun B M o σ ρ H R H1 e1 Q k =>
  ha B M o σ ρ H R H1 e1 _ (O.go_mono (O.go_bind.mp k) (fun x kx v H2 e2 p2 => hb B M o σ ρ H R H2 (e1.trans e2) _ (O.go_mono (O.go_bind.mp kx) (fun y ky u H3 e3 p3 => by
    obtain ⟨h1, h2⟩ := hr x y
    cases q : h x y with
    | ok z =>
      rw [q] at ky
      refine h2 z q v u H3 _ (dp_ex e3 p2) p3 fun v' H4 e4 p4 => ?_
      cases z with
      | bool k =>
        refine ⟨k, dp_bl p4, ?_⟩
        cases k with
        | true =>
          refine hc B M o σ ρ H R H4 (((e1.trans e2).trans e3).trans e4) _ (O.go_mono (O.go_bind.mp ky) (fun w kw u' H5 e5 p5 => ?_) fun x z H5 e5 => z H5 (((e2.trans e3).trans e4).trans e5))
          obtain ⟨h3, h4⟩ := hr' y w
          cases q' : h' y w with
          | ok z =>
            rw [q'] at kw
            exact h4 z q' u u' H5 Q (dp_ex (e4.trans e5) p3) p5 fun v' H6 e6 p6 => kw v' H6 ((((e2.trans e3).trans e4).trans e5).trans e6) p6
          | ex z => exact absurd q' (h3 z)
          | no => rw [q'] at kw; exact kw.elim
        | false => exact ky _ H4 ((e2.trans e3).trans e4) (.bl _)
      | _ => exact ky.elim
    | ex z => exact absurd q (h1 z)
    | no => rw [q] at ky; exact ky.elim) fun x z H3 e3 => z H3 (e2.trans e3))) fun _ z => z)
end
end Wc

/-! .. operators, built-ins, parts, what is walked, comprehensions. -/
namespace Wc
open PySem PySem.Spec PyProof.Rows L2
section
variable {K : Fg}
theorem hr_of {r : R2} {h : Dt → Dt → O Dt} (h1 : ∀ d e x, h d e ≠ .ex x) (h2 : ∀ d e z, h d e = .ok z → Rd2 K r d e z) : Hr K r h := fun d e => ⟨h1 d e, h2 d e⟩
theorem Rd2.is {r : R2} {d e z z' : Dt} (h : Rd2 K r d e z) (x : z = z') : Rd2 K r d e z' := x ▸ h
theorem ho_add : Hr K (rI0 fun i j => .int (i + j)) hAdd := fun d e => by
  unfold hAdd
  split
  · exact ⟨nofun, fun z q => rd_add.is (O.ok.inj q)⟩
  · exact ⟨nofun, nofun⟩
theorem ho_sub : Hr K (rI0 fun i j => .int (i - j)) hSub := fun d e => by
  unfold hSub
  split
  · exact ⟨nofun, fun z q => rd_sub.is (O.ok.inj q)⟩
  · exact ⟨nofun, nofun⟩
theorem ho_mul : Hr K (rI CMul fun i j => .int (i * j)) hMul := fun d e => by
  unfold hMul
  split
  · split
    · rename_i c
      refine ⟨nofun, fun z q => ?_⟩
      rcases c with c | c
      · exact (rd_mulL c).is (O.ok.inj q)
      · exact (rd_mulR c).is (O.ok.inj q)
    · exact ⟨nofun, nofun⟩
  · exact ⟨nofun, nofun⟩
theorem ho_mod : Hr K (rI (fun _ j => 0 < j) fun i j => .int (i % j)) hMod := fun d e => by
  unfold hMod
  split
  · split
    · rename_i c
      exact ⟨nofun, fun z q => (rd_mod c).is (O.ok.inj q)⟩
    · exact ⟨nofun, nofun⟩
  · exact ⟨nofun, nofun⟩
theorem ho_div : Hr K (rI CDiv fun i j => .int (i / j)) hDiv := fun d e => by
  unfold hDiv
  split
  · split
    · rename_i c
      exact ⟨nofun, fun z q => (rd_fdiv c).is (O.ok.inj q)⟩
    · exact ⟨nofun, nofun⟩
  · exact ⟨nofun, nofun⟩
theorem ho_lt : Hr K (rI0 fun i j => .bl (decide (i < j))) hLt := fun d e => by
  unfold hLt
  split
  · exact ⟨nofun, fun z q => rd_lt.is (O.ok.inj q)⟩
  · exact ⟨nofun, nofun⟩
theorem ho_le : Hr K (rI0 fun i j => .bl (decide (i ≤ j))) hLe := fun d e => by
  unfold hLe
  split
  · exact ⟨nofun, fun z q => rd_le.is (O.ok.inj q)⟩
  · exact ⟨nofun, nofun⟩
theorem ho_gt : Hr K (rI0 fun i j => .bl (decide (j < i))) hGt := fun d e => by
  unfold hGt
  split
  · exact ⟨nofun, fun z q => rd_gt.is (O.ok.inj q)⟩
  · exact ⟨nofun, nofun⟩
theorem ho_ge : Hr K (rI0 fun i j => .bl (decide (j ≤ i))) hGe := fun d e => by
  unfold hGe
  split
  · exact ⟨nofun, fun z q => rd_ge.is (O.ok.inj q)⟩
  · exact ⟨nofun, nofun⟩
theorem ho_eq : Hr K (rEqD K) hEq := fun d e => by
  unfold hEq
  split
  · rename_i c
    rw [Bool.and_eq_true] at c
    exact ⟨nofun, fun z q => (rd_eqD c.1 c.2).is (O.ok.inj q)⟩
  · exact ⟨nofun, nofun⟩
theorem ho_ne : Hr K (rNeD K) hNe := fun d e => by
  unfold hNe
  split
  · rename_i c
    rw [Bool.and_eq_true] at c
    exact ⟨nofun, fun z q => (rd_neD c.1 c.2).is (O.ok.inj q)⟩
  · exact ⟨nofun, nofun⟩
theorem isNn_ty {d : Dt} : decide (tyN d = "NoneType") = isNn d := by cases d <;> simp [tyN, isNn]
theorem ho_isN : Hr K (fun x y H Q => y = .non ∧ Q (.bl (decide (x = .non))) H) hIsN := fun d e => by
  unfold hIsN
  split
  · exact ⟨nofun, fun z q => rd_isN.is (by rw [isNn_ty]; exact O.ok.inj q)⟩
  · exact ⟨nofun, nofun⟩
theorem ho_notN : Hr K (fun x y H Q => y = .non ∧ Q (.bl (!decide (x = .non))) H) hNotN := fun d e => by
  unfold hNotN
  split
  · exact ⟨nofun, fun z q => rd_notN.is (by rw [isNn_ty]; exact O.ok.inj q)⟩
  · exact ⟨nofun, nofun⟩
theorem ho_isB : Hr K rIsB hIsB := fun d e => by
  unfold hIsB
  split
  · exact ⟨nofun, fun z q => rd_isB.is (O.ok.inj q)⟩
  · exact ⟨nofun, nofun⟩
theorem ho_notB : Hr K rNotB hNotB := fun d e => by
  unfold hNotB
  split
  · exact ⟨nofun, fun z q => rd_notB.is (O.ok.inj q)⟩
  · exact ⟨nofun, nofun⟩
theorem ho_in : Hr K (rInD K) hIn := fun d e => by
  unfold hIn
  split
  · split
    · rename_i c
      rw [Bool.and_eq_true] at c
      exact ⟨nofun, fun z q => (rd_inD c.1 c.2).is (O.ok.inj q)⟩
    · exact ⟨nofun, nofun⟩
  · exact ⟨nofun, nofun⟩
theorem ho_ni : Hr K (rNotInD K) hNi := fun d e => by
  unfold hNi
  split
  · split
    · rename_i c
      rw [Bool.and_eq_true] at c
      exact ⟨nofun, fun z q => (rd_niD c.1 c.2).is (O.ok.inj q)⟩
    · exact ⟨nofun, nofun⟩
  · exact ⟨nofun, nofun⟩
theorem ho_inT : Hr K (rIn K false) hInT := fun d e => by
  unfold hInT
  split
  · split
    · rename_i c
      exact ⟨nofun, fun z q => (rd_inT (strsOf_eq c)).is (O.ok.inj q)⟩
    · exact ⟨nofun, nofun⟩
  · exact ⟨nofun, nofun⟩
theorem ho_niT : Hr K (rIn K true) hNiT := fun d e => by
  unfold hNiT
  split
  · split
    · rename_i c
      exact ⟨nofun, fun z q => (rd_niT (strsOf_eq c)).is (O.ok.inj q)⟩
    · exact ⟨nofun, nofun⟩
  · exact ⟨nofun, nofun⟩
theorem ho_inS : Hr K (fun x y H Q => ∃ (c : Nat) (z : Str), x = .str ⟨#[c]⟩ ∧ y = .str z ∧ Q (.bl (decide (c ∈ z.cps.toList))) H) hInS := fun d e => by
  unfold hInS
  split
  · rename_i x z
    split
    · rename_i k hk
      refine ⟨nofun, fun w q v u H Q p1 p2 kk => ?_⟩
      cases q
      obtain rfl := dp_str p1
      obtain rfl := dp_str p2
      refine ⟨k, z, ?_, rfl, kk _ H ex_rfl (.bl _)⟩
      obtain ⟨cps⟩ := x
      have : cps = #[k] := by
        apply Array.toList_inj.mp
        exact hk
      rw [this]
    · exact ⟨nofun, nofun⟩
  · exact ⟨nofun, nofun⟩
theorem ho_ix : Hr K (rIx K) hIx := fun d e => by
  unfold hIx
  split
  · split
    · rename_i c
      exact ⟨nofun, fun z q => (rd_ixL c).is (O.ok.inj q)⟩
    · exact ⟨nofun, nofun⟩
  · split
    · rename_i c
      exact ⟨nofun, fun z q => (rd_ixT c).is (O.ok.inj q)⟩
    · exact ⟨nofun, nofun⟩
  · exact ⟨nofun, nofun⟩
theorem hu_neg : Hu K (rU fun i => .int (-i)) hNeg := fun d => by
  unfold hNeg
  split
  · refine ⟨nofun, fun z q => ?_⟩
    cases q
    exact rd_neg
  · exact ⟨nofun, nofun⟩
theorem ho_catT : Hr K (rCatT K) hCatT := fun d e => by
  unfold hCatT
  split
  · split
    · rename_i a b c
      refine ⟨nofun, fun w q v u H Q p1 p2 kk => ?_⟩
      cases q
      obtain ⟨p, xs, rfl, h1, h2⟩ := dp_tup p1
      obtain ⟨p', ys, rfl, h3, h4⟩ := dp_tup p2
      have l1 := dps_len h2
      have l2 := dps_len h4
      refine ⟨p, p', xs, ys, rfl, rfl, h1, h3, fun z => ?_, Evl.sz_of (by omega), fun z => ?_, fun _ q hq => kk _ _ (Evl.Ex.new hq) (Dp.tup (.inl (.inl upd_same)) (dps_ex (Evl.Ex.new hq) (dps_app h2 h4)))⟩
      · rw [z] at l1
        exact c.1 (List.length_eq_zero_iff.mp l1.symm)
      · rw [z] at l2
        exact absurd (List.length_eq_zero_iff.mp l2.symm) c.2.1
    · exact ⟨nofun, nofun⟩
  · exact ⟨nofun, nofun⟩
theorem RdC.is {r : List V → Hp → VK → Prop} {ds : List Dt} {z z' : Dt} (h : RdC K r ds z) (x : z = z') : RdC K r ds z' := x ▸ h
theorem hc_len : Hc K (fun xs H Q => ∃ x n, xs = [x] ∧ LenV K x H n ∧ Q (.int n) H) hLen := fun ds => by
  unfold hLen
  split
  · exact ⟨nofun, fun z q => rd_lenL.is (O.ok.inj q)⟩
  · exact ⟨nofun, fun z q => rd_lenT.is (O.ok.inj q)⟩
  · split
    · rename_i c
      exact ⟨nofun, fun z q => (rd_lenS c).is (O.ok.inj q)⟩
    · exact ⟨nofun, nofun⟩
  · exact ⟨nofun, nofun⟩
theorem hc_min2 : Hc K (fun xs H Q => ∃ i j, xs = [.int i, .int j] ∧ Q (.int (if j < i then j else i)) H) hMin2 := fun ds => by
  unfold hMin2
  split
  · exact ⟨nofun, fun z q => rd_min2.is (O.ok.inj q)⟩
  · exact ⟨nofun, nofun⟩
theorem hc_max2 : Hc K (fun xs H Q => ∃ i j, xs = [.int i, .int j] ∧ Q (.int (if j > i then j else i)) H) hMax2 := fun ds => by
  unfold hMax2
  split
  · exact ⟨nofun, fun z q => rd_max2.is (O.ok.inj q)⟩
  · exact ⟨nofun, nofun⟩
theorem hc_abs : Hc K (fun xs H Q => ∃ i, xs = [.int i] ∧ Q (.int (if i < 0 then -i else i)) H) hAbs := fun ds => by
  unfold hAbs
  split
  · exact ⟨nofun, fun z q => rd_abs.is (O.ok.inj q)⟩
  · exact ⟨nofun, nofun⟩
theorem hc_sum : Hc K (rSum K) hSum := fun ds => by
  unfold hSum
  split
  · split
    · rename_i ds ns c
      obtain rfl := intsOf_eq c
      exact ⟨nofun, fun z q => rd_sumI.is (O.ok.inj q)⟩
    · exact ⟨nofun, nofun⟩
  · exact ⟨nofun, nofun⟩
theorem foldl_max_spec : ∀ (r : List Int) (a : Int), (r.foldl max a = a ∨ r.foldl max a ∈ r) ∧ a ≤ r.foldl max a ∧ ∀ x ∈ r, x ≤ r.foldl max a
  | [], a => ⟨.inl rfl, Int.le_refl _, nofun⟩
  | b :: r, a => by
    obtain ⟨h1, h2, h3⟩ := foldl_max_spec r (max a b)
    refine ⟨?_, by show a ≤ r.foldl max (max a b); omega, fun x hx => ?_⟩
    · rcases h1 with h1 | h1
      · rcases Int.le_total a b with l | l
        · exact .inr (by show r.foldl max (max a b) ∈ _; rw [h1, Int.max_eq_right l]; exact List.mem_cons_self)
        · exact .inl (by show r.foldl max (max a b) = a; rw [h1, Int.max_eq_left l])
      · exact .inr (List.mem_cons_of_mem _ h1)
    · rcases List.mem_cons.mp hx with e | e
      · subst e
        show x ≤ r.foldl max (max a x)
        omega
      · exact h3 x e
theorem maxI_spec {ns : List Int} (h : ns ≠ []) : maxI ns ∈ ns ∧ ∀ x ∈ ns, x ≤ maxI ns := by
  cases ns with
  | nil => exact absurd rfl h
  | cons a r =>
    obtain ⟨h1, h2, h3⟩ := foldl_max_spec r a
    refine ⟨?_, fun x hx => ?_⟩
    · rcases h1 with h1 | h1
      · show r.foldl max a ∈ _
        rw [h1]
        exact List.mem_cons_self
      · exact List.mem_cons_of_mem _ h1
    · rcases List.mem_cons.mp hx with e | e
      · subst e; exact h2
      · exact h3 x e
theorem foldl_min_spec : ∀ (r : List Int) (a : Int), (r.foldl min a = a ∨ r.foldl min a ∈ r) ∧ r.foldl min a ≤ a ∧ ∀ x ∈ r, r.foldl min a ≤ x
  | [], a => ⟨.inl rfl, Int.le_refl _, nofun⟩
  | b :: r, a => by
    obtain ⟨h1, h2, h3⟩ := foldl_min_spec r (min a b)
    refine ⟨?_, by show r.foldl min (min a b) ≤ a; omega, fun x hx => ?_⟩
    · rcases h1 with h1 | h1
      · rcases Int.le_total a b with l | l
        · exact .inl (by show r.foldl min (min a b) = a; rw [h1, Int.min_eq_left l])
        · exact .inr (by show r.foldl min (min a b) ∈ _; rw [h1, Int.min_eq_right l]; exact List.mem_cons_self)
      · exact .inr (List.mem_cons_of_mem _ h1)
    · rcases List.mem_cons.mp hx with e | e
      · subst e
        show r.foldl min (min a x) ≤ x
        omega
      · exact h3 x e
theorem minI_spec {ns : List Int} (h : ns ≠ []) : minI ns ∈ ns ∧ ∀ x ∈ ns, minI ns ≤ x := by
  cases ns with
  | nil => exact absurd rfl h
  | cons a r =>
    obtain ⟨h1, h2, h3⟩ := foldl_min_spec r a
    refine ⟨?_, fun x hx => ?_⟩
    · rcases h1 with h1 | h1
      · show r.foldl min a ∈ _
        rw [h1]
        exact List.mem_cons_self
      · exact List.mem_cons_of_mem _ h1
    · rcases List.mem_cons.mp hx with e | e
      · subst e; exact h2
      · exact h3 x e
theorem hc_max1 : Hc K (rMax K) hMax1 := fun ds => by
  unfold hMax1
  split
  · split
    · rename_i ds n r c
      obtain rfl := intsOf_eq c
      refine ⟨nofun, fun z q vs H Q p k => ?_⟩
      cases q
      obtain ⟨v, r', rfl, q1, q2⟩ := dps_cons p
      obtain rfl := dps_nil q2
      obtain ⟨a, xs, rfl, hs, hd⟩ := dp_lst q1
      obtain rfl := of_dps_ints hd
      refine ⟨a, n :: r, rfl, hs, by simp, fun m h1 h2 => ?_⟩
      have h3 := maxI_spec (ns := n :: r) (by simp)
      have : m = maxI (n :: r) := Int.le_antisymm (h3.2 m h1) (h2 _ h3.1)
      rw [this]
      exact k _ H ex_rfl (.int _)
    · exact ⟨nofun, nofun⟩
  · exact ⟨nofun, nofun⟩
theorem hc_min1 : Hc K (rMin K) hMin1 := fun ds => by
  unfold hMin1
  split
  · split
    · rename_i ds n r c
      obtain rfl := intsOf_eq c
      refine ⟨nofun, fun z q vs H Q p k => ?_⟩
      cases q
      obtain ⟨v, r', rfl, q1, q2⟩ := dps_cons p
      obtain rfl := dps_nil q2
      obtain ⟨a, xs, rfl, hs, hd⟩ := dp_lst q1
      obtain rfl := of_dps_ints hd
      refine ⟨a, n :: r, rfl, hs, by simp, fun m h1 h2 => ?_⟩
      have h3 := minI_spec (ns := n :: r) (by simp)
      have : m = minI (n :: r) := Int.le_antisymm (h2 _ h3.1) (h3.2 m h1)
      rw [this]
      exact k _ H ex_rfl (.int _)
    · exact ⟨nofun, nofun⟩
  · exact ⟨nofun, nofun⟩
theorem hc_all : Hc K (rAll K) hAll := fun ds => by
  unfold hAll
  split
  · split
    · rename_i ds ns c
      obtain rfl := blsOf_eq c
      refine ⟨nofun, fun z q vs H Q p k => ?_⟩
      cases q
      obtain ⟨v, r', rfl, q1, q2⟩ := dps_cons p
      obtain rfl := dps_nil q2
      obtain ⟨a, xs, rfl, hs, hd⟩ := dp_lst q1
      obtain rfl := of_dps_bls hd
      exact ⟨a, ns, rfl, hs, k _ H ex_rfl (.bl _)⟩
    · exact ⟨nofun, nofun⟩
  · exact ⟨nofun, nofun⟩
/-! sorting -/
theorem insI_perm (x : Int) : ∀ l, (insI x l).Perm (x :: l)
  | [] => .refl _
  | y :: r => by
    unfold insI
    split
    · exact .refl _
    · exact ((insI_perm x r).cons y).trans (.swap x y r)
theorem sortI_perm : ∀ l, (sortI l).Perm l
  | [] => .refl _
  | x :: r => (insI_perm x (sortI r)).trans ((sortI_perm r).cons x)
theorem insI_sorted (x : Int) : ∀ {l : List Int}, l.Pairwise (· ≤ ·) → (insI x l).Pairwise (· ≤ ·)
  | [], _ => by simp [insI]
  | y :: r, h => by
    obtain ⟨h1, h2⟩ := List.pairwise_cons.mp h
    unfold insI
    split
    · refine List.pairwise_cons.mpr ⟨fun z hz => ?_, h⟩
      rcases List.mem_cons.mp hz with e | e
      · omega
      · have := h1 z e
        omega
    · refine List.pairwise_cons.mpr ⟨fun z hz => ?_, insI_sorted x h2⟩
      rcases List.mem_cons.mp ((insI_perm x r).mem_iff.mp hz) with e | e
      · omega
      · exact h1 z e
theorem sortI_sorted : ∀ l : List Int, (sortI l).Pairwise (· ≤ ·)
  | [] => .nil
  | x :: r => insI_sorted x (sortI_sorted r)
theorem insU_mem (x y : Int) : ∀ l, y ∈ insU x l ↔ y = x ∨ y ∈ l
  | [] => by simp [insU]
  | z :: r => by
    unfold insU
    split
    · simp
    · split
      · rename_i e
        subst e
        simp
      · simp only [List.mem_cons, insU_mem x y r]
        constructor
        · rintro (h | h | h)
          · exact .inr (.inl h)
          · exact .inl h
          · exact .inr (.inr h)
        · rintro (h | h | h)
          · exact .inr (.inl h)
          · exact .inl h
          · exact .inr (.inr h)
theorem setI_mem (y : Int) : ∀ l, y ∈ setI l ↔ y ∈ l
  | [] => Iff.rfl
  | x :: r => by
    show y ∈ insU x (setI r) ↔ _
    rw [insU_mem, setI_mem y r, List.mem_cons]
theorem insU_asc (x : Int) : ∀ {l : List Int}, l.Pairwise (· < ·) → (insU x l).Pairwise (· < ·)
  | [], _ => by simp [insU]
  | y :: r, h => by
    obtain ⟨h1, h2⟩ := List.pairwise_cons.mp h
    unfold insU
    split
    · refine List.pairwise_cons.mpr ⟨fun z hz => ?_, h⟩
      rcases List.mem_cons.mp hz with e | e
      · omega
      · have := h1 z e
        omega
    · split
      · exact h
      · refine List.pairwise_cons.mpr ⟨fun z hz => ?_, insU_asc x h2⟩
        rcases (insU_mem x z r).mp hz with e | e
        · omega
        · exact h1 z e
theorem setI_asc : ∀ l : List Int, (setI l).Pairwise (· < ·)
  | [] => .nil
  | x :: r => insU_asc x (setI_asc r)
theorem asc_nodup {l : List Int} (h : l.Pairwise (· < ·)) : l.Nodup := h.imp fun h => by omega
theorem hcn_sort : Hcn K (rSortedI K) hSort := fun ds => by
  unfold hSort
  split
  · split
    · rename_i ds ns c
      obtain rfl := intsOf_eq c
      refine ⟨nofun, fun z q => ?_⟩
      cases q
      exact ⟨_, rfl, rn_sorted (sortI_sorted ns) (sortI_perm ns)⟩
    · exact ⟨nofun, nofun⟩
  · exact ⟨nofun, nofun⟩
theorem hcn_list : Hcn K (fun xs H Q => ∃ p ys, xs = [.ref p] ∧ (SqL K H p ys ∨ SqT K H p ys) ∧ ∀ l, H l = none → Q (.ref l) (upd H l (.lst ys))) hListOf := fun ds => by
  unfold hListOf
  split
  · refine ⟨nofun, fun z q => ?_⟩
    cases q
    exact ⟨_, rfl, rn_list⟩
  · exact ⟨nofun, nofun⟩
end
section
variable {K : Fg} {E : XS} {ta tb tc td te to : TE} {t u : TT} {a b c e m : MP} {tl th : TO} {lo hi : MEnv → O (Option Int)}
theorem yn_sset (ha : YT K E te a) : YN K E (tSortedSet K te) (pUn hSortSet a) := fun B M o σ ρ H R H1 e1 Q k =>
  ha B M o σ ρ H R H1 e1 _ (O.go_mono (O.go_bind.mp k) (fun d kd v H2 e2 p2 => by
    unfold hSortSet at kd
    split at kd
    · split at kd
      · split at kd
        · rename_i ds ns c hl
          obtain rfl := intsOf_eq c
          obtain ⟨p, xs, rfl, h1, h2⟩ := dp_lst p2
          obtain rfl := of_dps_ints h2
          refine ⟨p, ns, rfl, h1, hl, fun ms p hm hmm hp => ?_⟩
          have e : ms = setI ns := asc_unique hm (setI_asc ns) fun j => (hmm j).trans (setI_mem j ns).symm
          subst e
          exact kd _ _ (e2.trans (Evl.Ex.new hp)) ⟨p, _, _, rfl, rfl, Evl.fresh_back e2 hp, upd_same, dps_ints _⟩
        · exact kd.elim
      · exact kd.elim
    · exact kd.elim) fun _ z => z)
theorem yt_lset (ha : YT K E te a) : YT K E (tLenSet K te) (pUn hLenSet a) := fun B M o σ ρ H R H1 e1 Q k =>
  ha B M o σ ρ H R H1 e1 _ (O.go_mono (O.go_bind.mp k) (fun d kd v H2 e2 p2 => by
    unfold hLenSet at kd
    split at kd
    · split at kd
      · split at kd
        · rename_i ds ns c hl
          obtain rfl := intsOf_eq c
          obtain ⟨p, xs, rfl, h1, h2⟩ := dp_lst p2
          obtain rfl := of_dps_ints h2
          refine ⟨p, ns, rfl, h1, hl, fun ms hm hmm => ?_⟩
          have e : ms.length = (setI ns).length := nodup_len hm (asc_nodup (setI_asc ns)) fun j => (hmm j).trans (setI_mem j ns).symm
          rw [e]
          exact kd _ H2 e2 (.int _)
        · exact kd.elim
      · exact kd.elim
    · exact kd.elim) fun _ z => z)
/-- list + list, list * int -/
theorem yn_cat (ha : YL K E ta a) (hb : YL K E tb b) : YN K E (tOp rCat ta tb) (pOp hCat a b) := fun B M o σ ρ H R H1 e1 Q k =>
  ha B M o σ ρ H R H1 e1 _ (O.go_mono (O.go_bind.mp k) (fun x kx v H2 e2 p2 => hb B M o σ ρ H R H2 (e1.trans e2) _ (O.go_mono (O.go_bind.mp kx) (fun y ky u H3 e3 p3 => by
    obtain ⟨p, xs, ds, rfl, rfl, h1, h2⟩ := p2
    obtain ⟨q, ys, es, rfl, rfl, h3, h4⟩ := p3
    unfold hCat at ky
    dsimp only at ky
    split at ky
    · rename_i hl
      exact ⟨p, q, xs, ys, rfl, rfl, e3 _ _ h1, h3, Evl.sz_of (by rw [dps_len h2, dps_len h4]; exact hl), fun l hl => ky _ _ ((e2.trans e3).trans (Evl.Ex.new hl)) ⟨l, _, _, rfl, rfl, Evl.fresh_back (e2.trans e3) hl, upd_same, dps_ex (Evl.Ex.new hl) (dps_app (dps_ex e3 h2) h4)⟩⟩
    · exact ky.elim) fun x z H3 e3 => z H3 (e2.trans e3))) fun _ z => z)
theorem dps_rep {H : Hp} {xs : List V} {ds : List Dt} (h : DpAll K H xs ds) : ∀ n, DpAll K H (List.replicate n xs).flatten (repD ds n)
  | 0 => .nil
  | n + 1 => by
    unfold repD
    rw [List.replicate_succ, List.replicate_succ, List.flatten_cons, List.flatten_cons]
    exact dps_app h (dps_rep h n)
theorem yn_rep (ha : YL K E ta a) (hb : YT K E tb b) : YN K E (tOp rRep ta tb) (pOp hRep a b) := fun B M o σ ρ H R H1 e1 Q k =>
  ha B M o σ ρ H R H1 e1 _ (O.go_mono (O.go_bind.mp k) (fun x kx v H2 e2 p2 => hb B M o σ ρ H R H2 (e1.trans e2) _ (O.go_mono (O.go_bind.mp kx) (fun y ky u H3 e3 p3 => by
    obtain ⟨p, xs, ds, rfl, rfl, h1, h2⟩ := p2
    cases y with
    | int k0 =>
      change (if -9223372036854775808 ≤ k0 ∧ k0 < 9223372036854775808 ∧ ds.length * k0.toNat ≤ 100000 then O.ok (PyData.list (repD ds k0.toNat)) else .no).go _ _ at ky
      split at ky
      · rename_i hl
        obtain rfl := dp_int p3
        exact ⟨p, _, xs, rfl, rfl, e3 _ _ h1, by omega, by omega, Evl.sz_of (by rw [dps_len h2]; exact hl.2.2), fun l hl => ky _ _ ((e2.trans e3).trans (Evl.Ex.new hl)) ⟨l, _, _, rfl, rfl, Evl.fresh_back (e2.trans e3) hl, upd_same, dps_ex (Evl.Ex.new hl) (dps_rep (dps_ex e3 h2) _)⟩⟩
      · exact ky.elim
    | _ => exact ky.elim) fun x z H3 e3 => z H3 (e2.trans e3))) fun _ z => z)
/-- slices -/
theorem yo_none' : YO K E tNoPart oNone := fun B M o σ ρ H R H1 e1 Q k => k H1 ex_rfl
theorem yo_some' (h : YT K E te a) : YO K E (tPart te) (oSome a) := fun B M o σ ρ H R H1 e1 Q k => h B M o σ ρ H R H1 e1 _ (O.go_mono (O.go_bind.mp k) (fun d kd v H2 e2 p2 => by
  cases d with
  | int i => exact ⟨i, dp_int p2, kd H2 e2⟩
  | _ => exact kd.elim) fun _ z => z)
theorem yn_slL (ha : YT K E te a) (hl : YO K E tl lo) (hh : YO K E th hi) : YN K E (tSl (rSlL K) te tl th) (pSlL a lo hi) := fun B M o σ ρ H R H1 e1 Q k =>
  ha B M o σ ρ H R H1 e1 _ (O.go_mono (O.go_bind.mp k) (fun d kd v H2 e2 p2 => hl B M o σ ρ H R H2 (e1.trans e2) _ (O.go_mono (O.go_bind.mp kd) (fun l kl H3 e3 => hh B M o σ ρ H R H3 ((e1.trans e2).trans e3) _ (O.go_mono (O.go_bind.mp kl) (fun h kh H4 e4 => by
    cases d with
    | list ds =>
      obtain ⟨p, xs, rfl, hs, hd⟩ := dp_lst p2
      have e := e3.trans e4
      refine ⟨p, xs, rfl, Evl.ex_l e hs, fun l hl => kh _ _ ((e2.trans e).trans (Evl.Ex.new hl)) ⟨l, _, _, rfl, rfl, Evl.fresh_back (e2.trans e) hl, upd_same, ?_⟩⟩
      unfold cutV cutD
      rw [dps_len hd]
      exact dps_ex (Evl.Ex.new hl) (dps_take _ (dps_drop _ (dps_ex e hd)))
    | _ => exact kh.elim) fun x z H4 e4 => z H4 ((e2.trans e3).trans e4))) fun x z H3 e3 => z H3 (e2.trans e3))) fun _ z => z)
theorem yt_slS (ha : YT K E te a) (hl : YO K E tl lo) (hh : YO K E th hi) : YT K E (tSl rSlS te tl th) (pSlS a lo hi) := fun B M o σ ρ H R H1 e1 Q k =>
  ha B M o σ ρ H R H1 e1 _ (O.go_mono (O.go_bind.mp k) (fun d kd v H2 e2 p2 => hl B M o σ ρ H R H2 (e1.trans e2) _ (O.go_mono (O.go_bind.mp kd) (fun l kl H3 e3 => hh B M o σ ρ H R H3 ((e1.trans e2).trans e3) _ (O.go_mono (O.go_bind.mp kl) (fun h kh H4 e4 => by
    cases d with
    | str z =>
      obtain rfl := dp_str p2
      dsimp only at kh
      split at kh
      · rename_i hz
        exact ⟨z, rfl, Evl.sz_of hz, kh _ H4 ((e2.trans e3).trans e4) (.str _)⟩
      · exact kh.elim
    | _ => exact kh.elim) fun x z H4 e4 => z H4 ((e2.trans e3).trans e4))) fun x z H3 e3 => z H3 (e2.trans e3))) fun _ z => z)
theorem yn_rev (ha : YT K E te a) : YN K E (tRevL K te) (pUn hRev a) := fun B M o σ ρ H R H1 e1 Q k =>
  ha B M o σ ρ H R H1 e1 _ (O.go_mono (O.go_bind.mp k) (fun d kd v H2 e2 p2 => by
    cases d with
    | list ds =>
      obtain ⟨p, xs, rfl, hs, hd⟩ := dp_lst p2
      exact ⟨p, xs, rfl, hs, fun l hl => kd _ _ (e2.trans (Evl.Ex.new hl)) ⟨l, _, _, rfl, rfl, Evl.fresh_back e2 hl, upd_same, dps_ex (Evl.Ex.new hl) (dps_rev hd)⟩⟩
    | _ => exact kd.elim) fun _ z => z)
/-- isinstance(e, T) -/
theorem yt_isi {n : String} (h : YT K E te a) (hn : n ∈ ["int", "bool", "str", "list", "tuple"]) : YT K E (tCB (rIsi K) (tCons te (tCons (tC (.ty n)) tNil))) (pUn (hIsi n) a) := fun B M o σ ρ H R H1 e1 Q k =>
  h B M o σ ρ H R H1 e1 _ (O.go_mono (O.go_bind.mp k) (fun d kd v H2 e2 p2 => ⟨v, .ty n, _, _, isT n d, rfl, .ty n, tyX_of p2, kit_ty (kit_isT (fun y z => by rw [z] at p2; cases p2) hn), kd _ H2 e2 (.bl _)⟩) fun _ z => z)
/-- xs.index(x), xs.count(x) -/
theorem idxD_spec {d : Dt} : ∀ {ds : List Dt} {j : Nat}, idxD d ds = some j → (∃ z, ds[j]? = some z ∧ PyData.eqv z d = true) ∧ ∀ m z, m < j → ds[m]? = some z → PyData.eqv z d = false
  | [], _, h => by cases h
  | z :: r, j, h => by
    unfold idxD at h
    split at h
    · rename_i c
      cases h
      exact ⟨⟨z, rfl, c⟩, nofun⟩
    · rename_i c
      cases q : idxD d r with
      | none => rw [q] at h; cases h
      | some i =>
        rw [q] at h
        have e : i + 1 = j := Option.some.inj h
        subst e
        obtain ⟨h1, h2⟩ := idxD_spec q
        refine ⟨h1, fun m y hm hy => ?_⟩
        cases m with
        | zero =>
          cases hy
          exact Bool.eq_false_iff.mpr c
        | succ m => exact h2 m y (by omega) hy
theorem yt_bm {tr : TA} {ma : MA} {T : V → List V → Hp → VK → Prop} {hh : List Dt → List Dt → O Dt} (h : YT K E te a) (ha : YA K E tr ma)
    (key : ∀ ds es v vs H Q, Dp K H v (.list ds) → DpAll K H vs es → (hh ds es).go (fun d => ∀ w H2, Ex H H2 → Dp K H2 w d → Q w H2) (fun _ => False) → T v vs H Q) (nx : ∀ ds es x, hh ds es ≠ .ex x) : YT K E (tBM K "list" T te tr) (pBM hh a ma) := fun B M o σ ρ H R H1 e1 Q k =>
  h B M o σ ρ H R H1 e1 _ (O.go_mono (O.go_bind.mp (O.go_bind.mp k)) (fun d kd v H2 e2 p2 => by
    cases d with
    | list ds =>
      obtain ⟨p, xs, rfl, hs, hx⟩ := dp_lst p2
      refine ⟨.inl ⟨rfl, xs, hs⟩, ha B M o σ ρ H R H2 (e1.trans e2) _ (O.go_mono (O.go_bind.mp kd) (fun es ke vs H3 e3 p3 => ?_) fun x z H3 e3 => z H3 (e2.trans e3))⟩
      refine key ds es _ vs H3 Q (dp_ex e3 p2) p3 ?_
      have := nx ds es
      generalize hh ds es = r at ke this
      cases r with
      | ok d => exact fun w H4 e4 p4 => ke w H4 ((e2.trans e3).trans e4) p4
      | ex x => exact absurd rfl (this x)
      | no => exact ke
    | _ => exact kd.elim) fun _ z => z)
theorem yt_index {tr : TA} {ma : MA} (h : YT K E te a) (ha : YA K E tr ma) : YT K E (tBM K "list" (rIndexD K) te tr) (pBM hIndex a ma) := yt_bm h ha (fun ds es v vs H Q p2 p3 ke => by
  unfold hIndex at ke
  split at ke
  · split at ke
    · rename_i d' c
      rw [Bool.and_eq_true] at c
      cases q : idxD d' ds with
      | none => rw [q] at ke; exact ke.elim
      | some j =>
        rw [q] at ke
        obtain ⟨w, r, rfl, q1, q2⟩ := dps_cons p3
        obtain rfl := dps_nil q2
        obtain ⟨p, xs, rfl, hs, hx⟩ := dp_lst p2
        obtain ⟨⟨z, z1, z2⟩, z3⟩ := idxD_spec q
        exact ⟨p, w, d', ds, j, z, rfl, rfl, p2, q1, c.2, c.1, z1, z2, z3, ke _ H ex_rfl (.int _)⟩
    · exact ke.elim
  · exact ke.elim) fun ds es x => by
    unfold hIndex
    split
    · split
      · split <;> nofun
      · nofun
    · nofun
theorem yt_count {tr : TA} {ma : MA} (h : YT K E te a) (ha : YA K E tr ma) : YT K E (tBM K "list" (rCntI K) te tr) (pBM hCount a ma) := yt_bm h ha (fun ds es v vs H Q p2 p3 ke => by
  unfold hCount at ke
  split at ke
  · split at ke
    · rename_i k _ ns c
      obtain rfl := intsOf_eq c
      obtain ⟨w, r, rfl, q1, q2⟩ := dps_cons p3
      obtain rfl := dps_nil q2
      obtain rfl := dp_int q1
      obtain ⟨p, xs, rfl, hs, hx⟩ := dp_lst p2
      obtain rfl := of_dps_ints hx
      exact ⟨p, ns, k, rfl, rfl, hs, ke _ H ex_rfl (.int _)⟩
    · exact ke.elim
  · exact ke.elim) fun ds es x => by
    unfold hCount
    split
    · split <;> nofun
    · nofun
end
end Wc

/-! .. what is walked, comprehensions, statements, defs. -/
namespace Wc
open PySem PySem.Spec PyProof.Rows L2
/-! ### slots and cells -/
theorem at_set {ρ : MEnv} {i j : Nat} {c : Cell} : at_ (ρ.set i c) j = if i = j then (if i < ρ.length then c else .no) else at_ ρ j := by
  unfold at_
  by_cases h : i = j
  · subst h
    rw [if_pos rfl]
    by_cases hl : i < ρ.length
    · rw [if_pos hl, List.getElem?_set_self hl] <;> rfl
    · rw [if_neg hl, List.getElem?_eq_none (by rw [List.length_set]; omega)] <;> rfl
  · rw [if_neg h, List.getElem?_set_ne h]
section
variable {K : Fg} {B M : Hp} {o : Addr → Option Nat} {σ : L2.St} {ρ : MEnv} {H H' : Hp} {v : V} {d : Dt} {ds : List Dt} {p : Addr} {i : Nat}
theorem Rl.set {c : Cell} {s : Option V} (R : Rl K B M o σ ρ H) (h : CellOk K B o H i (some s) c) : Rl K B M o (σ.set i s) (ρ.set i c) H := ⟨by rw [List.length_set, List.length_set]; exact R.len, fun j => by
  rw [at_set]
  by_cases e : i = j
  · subst e
    rw [if_pos rfl]
    split
    · rename_i hl
      rw [List.getElem?_set_self (by rw [← R.len]; exact hl)]
      exact h
    · trivial
  · rw [if_neg e, List.getElem?_set_ne e]
    exact R.cell j, R.keep, R.base, R.live⟩
theorem Rl.set_fz (R : Rl K B M o σ ρ H) (h : FzOk K o H v d) : Rl K B M o (σ.set i (some v)) (ρ.set i (cellOf d)) H := R.set h.cell
/-- a new list becomes ours -/
def own1 (o : Addr → Option Nat) (p : Addr) (i : Nat) : Addr → Option Nat := fun a => if a = p then some i else o a
theorem hid_own1 (h : H p = none) : hid (own1 o p i) H = hid o H := by
  funext a
  unfold hid own1
  by_cases e : a = p
  · subst e
    rw [if_pos rfl, h] <;> simp
  · rw [if_neg e]
theorem own1_ne {a : Addr} (h : a ≠ p) : own1 o p i a = o a := by unfold own1; rw [if_neg h]
theorem own1_at : own1 o p i p = some i := by unfold own1; rw [if_pos rfl]
theorem CellOk.own1 {j : Nat} {s : Option (Option V)} {c : Cell} (hp : H p = none) (h : CellOk K B o H j s c) : CellOk K B (own1 o p i) H j s c := by
  have hne : ∀ {a : Addr} {u : HO}, H a = some u → a ≠ p := fun hu z => by rw [z, hp] at hu; cases hu
  cases c with
  | no => trivial
  | val d =>
    obtain ⟨v, h1, h2⟩ := h
    exact ⟨v, h1, by rw [hid_own1 hp]; exact h2⟩
  | tl ds =>
    obtain ⟨p', xs, h1, h2, h3⟩ := h
    exact ⟨p', xs, h1, by rw [hid_own1 hp]; exact h2, by rw [hid_own1 hp]; exact h3⟩
  | own ds =>
    obtain ⟨p', xs, h1, h2, h3, h4, h5, h6⟩ := h
    exact ⟨p', xs, h1, by rw [own1_ne (hne h4)]; exact h2, h3, h4, h5, by rw [hid_own1 hp]; exact h6⟩
  | dr p' q =>
    obtain ⟨h1, h2, h3, h4⟩ := h
    obtain ⟨z0, z1, z2, z3, z4, z5⟩ := h4
    exact ⟨h1, by rw [own1_ne (hne z3)]; exact h2, by rw [own1_ne (hne z4)]; exact h3, z0, z1, z2, z3, z4, z5⟩
  | ob a g st sp ps =>
    obtain ⟨h1, dx, a1, a2, gv, z1, z2, z3, z4, z5, z6, z6', z7, z8, z9, z10⟩ := h
    exact ⟨h1, dx, a1, a2, gv, z1, z2, z3, z4, z5, by rw [hid_own1 hp]; exact z6, z6', by rw [own1_ne (hne z1)]; exact z7, by rw [own1_ne (hne z2)]; exact z8, by rw [own1_ne (hne z3)]; exact z9, by rw [own1_ne (hne z4)]; exact z10⟩
  | er x =>
    obtain ⟨a, h1, h2⟩ := h
    exact ⟨a, h1, by rw [hid_own1 hp]; exact h2⟩
  | ll dss =>
    obtain ⟨p', rs, h1, h2, h3, h4, h5, h6, h7, h8⟩ := h
    refine ⟨p', rs, h1, by rw [own1_ne (hne h4)]; exact h2, h3, h4, h5, h6, h7, fun k r ds hr hd => ?_⟩
    obtain ⟨z1, z2, xs, z3, z4, z5⟩ := h8 k r ds hr hd
    exact ⟨by rw [own1_ne (hne z3)]; exact z1, z2, xs, z3, z4, by rw [hid_own1 hp]; exact z5⟩
theorem Rl.own {u : HO} (R : Rl K B M o σ ρ H) (hp : H p = none) (e : Ex H H') (hu : H' p = some u) (n1 : ∀ xs, u ≠ .tup xs) (n2 : ∀ b xs, u ≠ .frz b xs) : Rl K B M (own1 o p i) σ ρ H' :=
  ⟨R.len, fun j => ((R.cell j).own1 hp).ex e, fun a w h => hid_ex e _ _ (by rw [hid_own1 hp]; exact R.keep a w h), fun a h => R.base a (Evl.fresh_back e h), fun a j h => by
    by_cases ea : a = p
    · subst ea
      exact ⟨u, hu, n1, n2⟩
    · rw [own1_ne ea] at h
      obtain ⟨w, h1, h2⟩ := R.live a j h
      exact ⟨w, e _ _ h1, h2⟩⟩
/-- something of slot i's changes -/
theorem hid_upd {x : HO} {a : Addr} (h : o a ≠ none) : hid o (upd H a x) = hid o H := by
  funext b
  unfold hid
  by_cases e : b = a
  · subst e
    rw [if_neg h, if_neg h]
  · rw [upd_ne e]
theorem CellOk.upd {x : HO} {a : Addr} {j : Nat} {s : Option (Option V)} {c : Cell} (ha : o a = some i) (hj : j ≠ i) (h : CellOk K B o H j s c) : CellOk K B o (upd H a x) j s c := by
  have hh : hid o (L2.upd H a x) = hid o H := hid_upd (by rw [ha]; nofun)
  have ne : ∀ {b : Addr}, o b = some j → b ≠ a := fun hb z => by
    rw [z, ha] at hb
    exact hj (Option.some.inj hb).symm
  cases c with
  | no => trivial
  | val d =>
    obtain ⟨v, h1, h2⟩ := h
    exact ⟨v, h1, by rw [hh]; exact h2⟩
  | tl ds =>
    obtain ⟨p', xs, h1, h2, h3⟩ := h
    exact ⟨p', xs, h1, by rw [hh]; exact h2, by rw [hh]; exact h3⟩
  | own ds =>
    obtain ⟨p', xs, h1, h2, h3, h4, h5, h6⟩ := h
    exact ⟨p', xs, h1, h2, h3, by rw [upd_ne (ne h2)]; exact h4, h5, by rw [hh]; exact h6⟩
  | dr p' q =>
    obtain ⟨h1, h2, h3, h4⟩ := h
    obtain ⟨z0, z1, z2, z3, z4, z5⟩ := h4
    exact ⟨h1, h2, h3, z0, z1, z2, by rw [upd_ne (ne h2)]; exact z3, by rw [upd_ne (ne h3)]; exact z4, z5⟩
  | ob a' g st sp ps =>
    obtain ⟨h1, dx, a1, a2, gv, z1, z2, z3, z4, z5, z6, z6', z7, z8, z9, z10⟩ := h
    exact ⟨h1, dx, a1, a2, gv, by rw [upd_ne (ne z7)]; exact z1, by rw [upd_ne (ne z8)]; exact z2, by rw [upd_ne (ne z9)]; exact z3, by rw [upd_ne (ne z10)]; exact z4, z5, by rw [hh]; exact z6, z6', z7, z8, z9, z10⟩
  | er x =>
    obtain ⟨a, h1, h2⟩ := h
    exact ⟨a, h1, by rw [hh]; exact h2⟩
  | ll dss =>
    obtain ⟨p', rs, h1, h2, h3, h4, h5, h6, h7, h8⟩ := h
    refine ⟨p', rs, h1, h2, h3, by rw [upd_ne (ne h2)]; exact h4, h5, h6, h7, fun k r ds hr hd => ?_⟩
    obtain ⟨z1, z2, xs, z3, z4, z5⟩ := h8 k r ds hr hd
    exact ⟨z1, z2, xs, by rw [upd_ne (ne z1)]; exact z3, z4, by rw [hh]; exact z5⟩
theorem Rl.mut {x : HO} {a : Addr} {c : Cell} (R : Rl K B M o σ ρ H) (ha : o a = some i) (n1 : ∀ xs, x ≠ .tup xs) (n2 : ∀ b xs, x ≠ .frz b xs) (hc : CellOk K B o (upd H a x) i σ[i]? c) : Rl K B M o σ (ρ.set i c) (upd H a x) :=
  ⟨by rw [List.length_set]; exact R.len, fun j => by
    rw [at_set]
    by_cases e : i = j
    · subst e
      rw [if_pos rfl]
      split
      · exact hc
      · trivial
    · rw [if_neg e]
      exact (R.cell j).upd ha (Ne.symm e), fun b u h => by rw [hid_upd (by rw [ha]; nofun)]; exact R.keep b u h, fun b h => R.base b (by
    by_cases e : b = a
    · subst e
      rw [upd_same] at h
      cases h
    · rw [upd_ne e] at h
      exact h), fun b j h => by
    by_cases e : b = a
    · subst e
      exact ⟨x, upd_same, n1, n2⟩
    · rw [upd_ne e]
      exact R.live b j h⟩
theorem Rl.wipe (R : Rl K B M o σ ρ H) : ∀ vs : List Nat, Rl K B M o (wipe σ vs) (wipeE ρ vs) H
  | [] => R
  | v :: vs => (R.wipe vs).set trivial
end
/-! ### what is walked -/
theorem wipe_set {σ : L2.St} {i : Nat} {s : Option V} {vs : List Nat} (h : i ∈ vs) : wipe (σ.set i s) vs = wipe σ vs := by
  apply List.ext_getElem?
  intro j
  by_cases hj : j ∈ vs
  · have key : ∀ {τ : L2.St}, (wipe τ vs)[j]? = if j < τ.length then some none else none := by
      intro τ
      have hl := wipe_length τ vs
      by_cases hlt : j < τ.length
      · rw [if_pos hlt]
        have := List.getElem?_eq_getElem (l := wipe τ vs) (i := j) (by rw [hl]; exact hlt)
        cases q : (wipe τ vs)[j]'(by rw [hl]; exact hlt) with
        | none => rw [this, q]
        | some x => exact absurd hj (wipe_some (σ := τ) (i := j) (x := x) (by rw [this, q])).2
      · rw [if_neg hlt]
        exact List.getElem?_eq_none (by rw [hl]; omega)
    rw [key, key, List.length_set]
  · rw [wipe_out hj, wipe_out hj, List.getElem?_set_ne (fun z => hj (by rw [← z]; exact h))]
theorem wipe_wipe (σ : L2.St) (vs : List Nat) : wipe (wipe σ vs) vs = wipe σ vs := by
  have key : ∀ ws : List Nat, (∀ i ∈ ws, i ∈ vs) → wipe (wipe σ ws) vs = wipe σ vs := by
    intro ws
    induction ws with
    | nil => intro _; rfl
    | cons w ws ih =>
      intro h
      show wipe ((wipe σ ws).set w none) vs = _
      rw [wipe_set (h w List.mem_cons_self)]
      exact ih fun i hi => h i (List.mem_cons_of_mem _ hi)
  exact key vs fun _ h => h
structure SrcF (K : Fg) (J : It) (M : Hp) (ds : List Dt) : Prop where
  go : ∀ i H, i < ds.length → Ex M H → J.go i H
  stop : ∀ H, Ex M H → J.stop ds.length H
  yld : ∀ i H x H', i < ds.length → Ex M H → J.yld i H x H' → Ex H H' ∧ ∀ o : Addr → Option Nat, (∀ a, H a = none → o a = none) → Ex M (hid o H) → ∃ d, ds[i]? = some d ∧ Dp K (hid o H') x d
def YI (K : Fg) (E : XS) (wi : TI) (m : MI) : Prop := ∀ B M o σ ρ H, Rl K B M o σ ρ H → ∀ H1, Ex H H1 → ∀ R : It → Hp → Prop,
  (m ρ).go (fun ds => ∀ J H2, Ex H1 H2 → SrcF K J (hid o H2) ds → R J H2) (fun x => ∀ H2, Ex H1 H2 → E σ (.ref (He.ga K x)) none H2) → wi σ H1 R
section
variable {K : Fg} {E : XS} {ta tb tc te : TE} {a b c e m : MP} {M : Hp}
theorem srcF_list {p : Addr} {xs : List V} {ds : List Dt} (h : SqL K M p xs) (hd : DpAll K M xs ds) : SrcF K (Itl K p) M ds :=
  ⟨fun i H hi e => ⟨xs, xs[i]'(by rw [dps_len hd]; exact hi), Evl.ex_l e h, List.getElem?_eq_getElem _⟩, fun H e => ⟨xs, Evl.ex_l e h, by rw [dps_len hd]; exact Nat.le_refl _⟩, fun i H x H' hi e y => by
    obtain ⟨rfl, y⟩ := y
    obtain ⟨d, h1, h2⟩ := dps_at hd (y xs (Evl.ex_l e h))
    exact ⟨ex_rfl, fun o _ eo => ⟨d, h1, dp_ex eo h2⟩⟩⟩
theorem srcF_tup {p : Addr} {xs : List V} {ds : List Dt} (h : SqT K M p xs) (hd : DpAll K M xs ds) : SrcF K (Itt K p) M ds :=
  ⟨fun i H hi e => ⟨xs, xs[i]'(by rw [dps_len hd]; exact hi), Evl.ex_t e h, List.getElem?_eq_getElem _⟩, fun H e => ⟨xs, Evl.ex_t e h, by rw [dps_len hd]; exact Nat.le_refl _⟩, fun i H x H' hi e y => by
    obtain ⟨rfl, y⟩ := y
    obtain ⟨d, h1, h2⟩ := dps_at hd (y xs (Evl.ex_t e h))
    exact ⟨ex_rfl, fun o _ eo => ⟨d, h1, dp_ex eo h2⟩⟩⟩
theorem rngD_len {lo : Int} {n : Nat} : (rngD lo n).length = n := by unfold rngD; rw [List.length_map, List.length_range]
theorem rngD_get {lo : Int} {n i : Nat} (h : i < n) : (rngD lo n)[i]? = some (.int (lo + (i : Nat))) := by
  unfold rngD
  rw [List.getElem?_map, List.getElem?_range h] <;> rfl
theorem rngC_len {lo c : Int} {n : Nat} : (rngC lo c n).length = n := by unfold rngC; rw [List.length_map, List.length_range]
theorem rngC_get {lo c : Int} {n i : Nat} (h : i < n) : (rngC lo c n)[i]? = some (.int (lo + (i : Nat) * c)) := by
  unfold rngC
  rw [List.getElem?_map, List.getElem?_range h] <;> rfl
theorem srcF_rng {lo : Int} {n : Nat} : SrcF K (Itr lo n) M (rngD lo n) :=
  ⟨fun i H hi e => by rw [rngD_len] at hi; exact hi, fun H e => by rw [rngD_len]; exact Nat.le_refl n, fun i H x H' hi e y => by
    rw [rngD_len] at hi
    obtain ⟨rfl, rfl⟩ := y
    exact ⟨ex_rfl, fun o _ eo => ⟨_, rngD_get hi, .int _⟩⟩⟩
theorem srcF_rngC {lo c : Int} {n : Nat} : SrcF K (Itc lo c n) M (rngC lo c n) :=
  ⟨fun i H hi e => by rw [rngC_len] at hi; exact hi, fun H e => by rw [rngC_len]; exact Nat.le_refl n, fun i H x H' hi e y => by
    rw [rngC_len] at hi
    obtain ⟨rfl, rfl⟩ := y
    exact ⟨ex_rfl, fun o _ eo => ⟨_, rngC_get hi, .int _⟩⟩⟩
theorem hid_new {o : Addr → Option Nat} {H : Hp} {p : Addr} {u : HO} (h : o p = none) : hid o (upd H p u) p = some u := by rw [hid_at h, upd_same]
theorem enumD_len : ∀ {ds : List Dt} {i : Nat}, (enumD i ds).length = ds.length
  | [], _ => rfl
  | _ :: r, i => congrArg Nat.succ (enumD_len (ds := r))
theorem enumD_get : ∀ {ds : List Dt} {i j : Nat} {d : Dt}, ds[j]? = some d → (enumD i ds)[j]? = some (.tuple [.int ((i + j : Nat) : Int), d])
  | [], _, _, _, h => by simp at h
  | x :: r, i, 0, d, h => by
    cases h
    rfl
  | x :: r, i, j + 1, d, h => by
    have := enumD_get (ds := r) (i := i + 1) (j := j) (d := d) h
    rw [show i + 1 + j = i + (j + 1) by omega] at this
    exact this
theorem srcF_enum {p : Addr} {xs : List V} {ds : List Dt} (h : SqL K M p xs) (hd : DpAll K M xs ds) : SrcF K (Ite K p) M (enumD 0 ds) :=
  ⟨fun i H hi e => ⟨xs, xs[i]'(by rw [dps_len hd, ← enumD_len (i := 0)]; exact hi), Evl.ex_l e h, List.getElem?_eq_getElem _⟩, fun H e => ⟨xs, Evl.ex_l e h, by rw [dps_len hd, enumD_len]; exact Nat.le_refl _⟩, fun i H x H' hi e y => by
    obtain ⟨T, x, rfl, hT, rfl, y⟩ := y
    obtain ⟨d, h1, h2⟩ := dps_at hd (y xs (Evl.ex_l e h))
    refine ⟨Evl.Ex.new hT, fun o ho eo => ⟨_, by have := enumD_get (i := 0) h1; rw [Nat.zero_add] at this; exact this, .tup (.inl (.inl (hid_new (ho T hT)))) (.cons (.int _) (.cons (dp_ex (eo.trans (hid_ex (Evl.Ex.new hT))) h2) .nil))⟩⟩⟩
theorem zipD_len : ∀ {ds es : List Dt}, (zipD ds es).length = min ds.length es.length
  | [], es => by cases es <;> simp [zipD]
  | _ :: r, [] => by simp [zipD]
  | _ :: r, _ :: s => by
    show (zipD r s).length + 1 = min (r.length + 1) (s.length + 1)
    rw [zipD_len]
    omega
theorem zipD_get : ∀ {ds es : List Dt} {j : Nat} {d e : Dt}, ds[j]? = some d → es[j]? = some e → (zipD ds es)[j]? = some (.tuple [d, e])
  | [], _, _, _, _, h, _ => by simp at h
  | _ :: r, [], _, _, _, _, h => by simp at h
  | x :: r, y :: s, 0, d, e, h, g => by
    cases h
    cases g
    rfl
  | x :: r, y :: s, j + 1, d, e, h, g => zipD_get (ds := r) (es := s) (j := j) h g
theorem srcF_zip {p q : Addr} {xs ys : List V} {ds es : List Dt} (h : SqL K M p xs) (hd : DpAll K M xs ds) (h' : SqL K M q ys) (hd' : DpAll K M ys es) : SrcF K (Itz K p q) M (zipD ds es) :=
  ⟨fun i H hi e => by
    rw [zipD_len] at hi
    exact ⟨xs, ys, xs[i]'(by rw [dps_len hd]; omega), ys[i]'(by rw [dps_len hd']; omega), Evl.ex_l e h, Evl.ex_l e h', List.getElem?_eq_getElem _, List.getElem?_eq_getElem _⟩, fun H e => ⟨xs, ys, Evl.ex_l e h, Evl.ex_l e h', by rw [dps_len hd, dps_len hd', zipD_len]; omega⟩, fun i H x H' hi e y => by
    obtain ⟨T, x, y, rfl, hT, rfl, y1, y2⟩ := y
    obtain ⟨d, h1, h2⟩ := dps_at hd (y1 xs (Evl.ex_l e h))
    obtain ⟨d', h3, h4⟩ := dps_at hd' (y2 ys (Evl.ex_l e h'))
    have ee : ∀ {o : Addr → Option Nat}, Ex M (hid o H) → Ex M (hid o (upd H T (.tup [x, y]))) := fun eo => eo.trans (hid_ex (Evl.Ex.new hT))
    exact ⟨Evl.Ex.new hT, fun o ho eo => ⟨_, zipD_get h1 h3, .tup (.inl (.inl (hid_new (ho T hT)))) (.cons (dp_ex (ee eo) h2) (.cons (dp_ex (ee eo) h4) .nil))⟩⟩⟩
theorem yi_l (h : YG K E te a) : YI K E (iList K te) (iL a) := fun B M o σ ρ H R H1 e1 Q k => h B M o σ ρ H R H1 e1 _ (O.go_mono (O.go_bind.mp k) (fun d kd v H2 e2 p2 => by
  cases d with
  | list ds =>
    obtain ⟨p, xs, rfl, h1, h2⟩ := dp_lst p2
    exact ⟨p, rfl, ⟨xs, Evl.ex_l hid_le h1⟩, kd _ H2 e2 (srcF_list h1 h2)⟩
  | _ => exact kd.elim) fun _ z => z)
theorem yi_t (h : YG K E te a) : YI K E (iTup K te) (iT a) := fun B M o σ ρ H R H1 e1 Q k => h B M o σ ρ H R H1 e1 _ (O.go_mono (O.go_bind.mp k) (fun d kd v H2 e2 p2 => by
  cases d with
  | tuple ds =>
    obtain ⟨p, xs, rfl, h1, h2⟩ := dp_tup p2
    exact ⟨p, rfl, ⟨xs, Evl.ex_t hid_le h1⟩, kd _ H2 e2 (srcF_tup h1 h2)⟩
  | _ => exact kd.elim) fun _ z => z)
theorem yi_r1 (h : YT K E te a) : YI K E (iRng1 (tCons te tNil)) (iR1 a) := fun B M o σ ρ H R H1 e1 Q k => h B M o σ ρ H R H1 e1 _ (O.go_mono (O.go_bind.mp k) (fun d kd v H2 e2 p2 => by
  cases d with
  | int m =>
    dsimp only at kd
    split at kd
    · rename_i hm
      obtain rfl := dp_int p2
      exact ⟨m, rfl, by omega, by omega, kd _ H2 e2 srcF_rng⟩
    · exact kd.elim
  | _ => exact kd.elim) fun _ z => z)
theorem yi_r2 (h : YT K E ta a) (h' : YT K E tb b) : YI K E (iRng2 (tCons ta (tCons tb tNil))) (iR2 a b) := fun B M o σ ρ H R H1 e1 Q k => h B M o σ ρ H R H1 e1 _ (O.go_mono (O.go_bind.mp k) (fun d kd v H2 e2 p2 => h' B M o σ ρ H R H2 (e1.trans e2) _ (O.go_mono (O.go_bind.mp kd) (fun e ke u H3 e3 p3 => by
  split at ke
  · split at ke
    · rename_i l m hm
      obtain rfl := dp_int p2
      obtain rfl := dp_int p3
      exact ⟨l, m, rfl, by omega, ke _ H3 (e2.trans e3) srcF_rng⟩
    · exact ke.elim
  · exact ke.elim) fun x z H3 e3 => z H3 (e2.trans e3))) fun _ z => z)
theorem yi_z (h : YG K E ta a) (h' : YG K E tb b) : YI K E (iZip K (tCons ta (tCons tb tNil))) (iZ a b) := fun B M o σ ρ H R H1 e1 Q k => h B M o σ ρ H R H1 e1 _ (O.go_mono (O.go_bind.mp k) (fun d kd v H2 e2 p2 => h' B M o σ ρ H R H2 (e1.trans e2) _ (O.go_mono (O.go_bind.mp kd) (fun e ke u H3 e3 p3 => by
  split at ke
  · obtain ⟨p, xs, rfl, h1, h2⟩ := dp_lst (dp_ex (hid_ex e3) p2)
    obtain ⟨q, ys, rfl, h3, h4⟩ := dp_lst p3
    exact ⟨p, q, xs, ys, rfl, Evl.ex_l hid_le h1, Evl.ex_l hid_le h3, ke _ H3 (e2.trans e3) (srcF_zip h1 h2 h3 h4)⟩
  · exact ke.elim) fun x z H3 e3 => z H3 (e2.trans e3))) fun _ z => z)
theorem yi_e (h : YG K E te a) : YI K E (iEnum K (tCons te tNil)) (iE a) := fun B M o σ ρ H R H1 e1 Q k => h B M o σ ρ H R H1 e1 _ (O.go_mono (O.go_bind.mp k) (fun d kd v H2 e2 p2 => by
  cases d with
  | list ds =>
    obtain ⟨p, xs, rfl, h1, h2⟩ := dp_lst p2
    exact ⟨p, xs, rfl, Evl.ex_l hid_le h1, kd _ H2 e2 (srcF_enum h1 h2)⟩
  | _ => exact kd.elim) fun _ z => z)
theorem yi_s (h : YT K E te a) : YI K E (iStr te) (iS a) := fun B M o σ ρ H R H1 e1 Q k => h B M o σ ρ H R H1 e1 _ (O.go_mono (O.go_bind.mp k) (fun d kd v H2 e2 p2 => by
  cases d with
  | str x =>
    obtain rfl := dp_str p2
    refine ⟨x, rfl, kd _ H2 e2 ⟨fun i H hi e => by rw [List.length_map, Array.length_toList] at hi; exact hi, fun H e => by rw [List.length_map, Array.length_toList]; exact Nat.le_refl _, fun i H y H' hi e z => ?_⟩⟩
    obtain ⟨rfl, c, h1, rfl⟩ := z
    exact ⟨ex_rfl, fun o _ _ => ⟨_, by rw [List.getElem?_map, Array.getElem?_toList, h1] <;> rfl, .str _⟩⟩
  | _ => exact kd.elim) fun _ z => z)
end
/-! ### targets -/
def Tg.ix : Tg → List Nat
  | .one i => [i]
  | .two i j => [i, j]
  | .three i j l => [i, j, l]
def YTg (K : Fg) (g : TG) (tg : Tg) : Prop := ∀ B M o σ ρ H v d, Rl K B M o σ ρ H → Dp K (hid o H) v d → ∀ R : L2.St → Hp → Prop,
  (tg.put d ρ).go (fun ρ' => ∀ σ', Rl K B M o σ' ρ' H → (∀ vs, (∀ i ∈ tg.ix, i ∈ vs) → wipe σ' vs = wipe σ vs) → R σ' H) (fun _ => False) → g v σ H R
section
variable {K : Fg} {E : XS}
theorem ytg_one {i : Nat} : YTg K (gName i) (.one i) := fun B M o σ ρ H v d R hd Q k => k _ (R.set ⟨v, rfl, hd⟩) fun vs h => wipe_set (h i (by simp [Tg.ix]))
theorem ytg_two {i j : Nat} : YTg K (gTup K 2 (gCons (gName i) (gCons (gName j) gNil))) (.two i j) := fun B M o σ ρ H v d R hd Q k => by
  have key : ∃ a b, d = .tuple [a, b] := by
    unfold Tg.put at k
    split at k
    · rename_i q
      cases q
    · exact ⟨_, _, rfl⟩
    · exact k.elim
    · rename_i q
      cases q
    · exact k.elim
  obtain ⟨a, b, rfl⟩ := key
  obtain ⟨p, xs, rfl, h1, h2⟩ := dp_tup hd
  obtain ⟨x, r, rfl, h3, h4⟩ := dps_cons h2
  obtain ⟨y, r2, rfl, h5, h6⟩ := dps_cons h4
  obtain rfl := dps_nil h6
  have R1 : Rl K B M o (σ.set i (some x)) (ρ.set i (.val a)) H := R.set (s := some x) (c := .val a) ⟨x, rfl, h3⟩
  have R2 : Rl K B M o ((σ.set i (some x)).set j (some y)) ((ρ.set i (.val a)).set j (.val b)) H := R1.set (s := some y) (c := .val b) ⟨y, rfl, h5⟩
  exact ⟨p, [x, y], rfl, Evl.ex_t hid_le h1, rfl, x, [y], rfl, y, [], rfl, rfl, k _ R2 fun vs h => by
    rw [wipe_set (h j (by simp [Tg.ix])), wipe_set (h i (by simp [Tg.ix]))]⟩
theorem ytg_three {i j l : Nat} : YTg K (gTup K 3 (gCons (gName i) (gCons (gName j) (gCons (gName l) gNil)))) (.three i j l) := fun B M o σ ρ H v d R hd Q k => by
  have key : ∃ a b c, d = .tuple [a, b, c] := by
    unfold Tg.put at k
    split at k
    · rename_i q
      cases q
    · rename_i q
      cases q
    · exact k.elim
    · exact ⟨_, _, _, rfl⟩
    · exact k.elim
  obtain ⟨a, b, c, rfl⟩ := key
  obtain ⟨p, xs, rfl, h1, h2⟩ := dp_tup hd
  obtain ⟨x, r, rfl, h3, h4⟩ := dps_cons h2
  obtain ⟨y, r2, rfl, h5, h6⟩ := dps_cons h4
  obtain ⟨z, r3, rfl, h7, h8⟩ := dps_cons h6
  obtain rfl := dps_nil h8
  have R1 : Rl K B M o (σ.set i (some x)) (ρ.set i (.val a)) H := R.set (s := some x) (c := .val a) ⟨x, rfl, h3⟩
  have R2 : Rl K B M o ((σ.set i (some x)).set j (some y)) ((ρ.set i (.val a)).set j (.val b)) H := R1.set (s := some y) (c := .val b) ⟨y, rfl, h5⟩
  have R3 := R2.set (i := l) (s := some z) (c := .val c) ⟨z, rfl, h7⟩
  exact ⟨p, [x, y, z], rfl, Evl.ex_t hid_le h1, rfl, x, [y, z], rfl, y, [z], rfl, z, [], rfl, rfl, k _ R3 fun vs h => by
    rw [wipe_set (h l (by simp [Tg.ix])), wipe_set (h j (by simp [Tg.ix])), wipe_set (h i (by simp [Tg.ix]))]⟩
theorem compL_cons {g : Tg} {t : MB} {e : MP} {ρ : MEnv} {d : Dt} {ds : List Dt} : compL g t e ρ (d :: ds) = (g.put d ρ).bind fun ρ' => (t ρ').nx.bind fun c => bif c then ((e ρ').nx.bind fun x => (compL g t e ρ ds).bind fun xs => .ok (x :: xs)) else compL g t e ρ ds := rfl
theorem go_nx {α : Type} {r : O α} {k : α → Prop} {x : Str → Prop} (h : r.nx.go k x) : r.go k (fun _ => False) := by
  cases r with
  | ok a => exact h
  | ex e => exact h
  | no => exact h
theorem yn_comp {wi : TI} {g : TG} {tt : TT} {te : TE} {vs : List Nat} {src : MI} {tg : Tg} {t : MB} {e : MP} (hs : YI K E wi src) (hg : YTg K g tg) (ht : YB K E tt t) (he : YT K E te e) (hv : ∀ i ∈ tg.ix, i ∈ vs := by decide) :
    YN K E (tLc wi g tt te vs) (pComp src tg vs t e) := fun B M o σ ρ H R H1 e1 Q k => hs B M o σ ρ H R H1 e1 _ (O.go_mono (O.go_bind.mp k) (fun ds kd J H2 e2 S => by
  split at kd
  · rename_i hl
    intro Dl hD
    have R2 := R.ex (e1.trans e2)
    have hDo : o Dl = none := R2.fresh hD
    -- what is left
    refine ⟨fun i m H' => m = ds.length - i ∧ i ≤ ds.length ∧ Ex H2 H' ∧ ∃ acc done, H' Dl = some (.lst acc) ∧ DpAll K H' acc done ∧ noLsts done = true ∧ done.length ≤ i ∧
      (compL tg t (pFz e) (wipeE ρ vs) (ds.drop i)).go (fun xs => ∀ v H4, Ex H1 H4 → Kn K H1 H4 v (.list (done ++ xs)) → Q v H4) (fun _ => False),
      ⟨ds.length, by simp, Nat.zero_le _, Evl.Ex.new hD, [], [], upd_same, .nil, by rw [noLsts], Nat.le_refl _, ?_⟩, ?_⟩
    · have kd' := O.go_bind.mp kd
      have nox : ∀ (l : List Dt) x, compL tg t (pFz e) (wipeE ρ vs) l ≠ .ex x := by
        intro l
        induction l with
        | nil => intro x; nofun
        | cons d l ih =>
          intro x
          rw [compL_cons]
          cases hq : tg.put d (wipeE ρ vs) with
          | no => nofun
          | ex y =>
            intro _
            unfold Tg.put at hq
            split at hq <;> cases hq
          | ok ρ' =>
            rw [O.bind_ok]
            cases t ρ' with
            | no => nofun
            | ex y => nofun
            | ok c =>
              rw [O.nx_ok, O.bind_ok]
              cases c with
              | false => exact ih x
              | true =>
                show ((pFz e ρ').nx.bind _) ≠ _
                cases pFz e ρ' with
                | no => nofun
                | ex y => nofun
                | ok z =>
                  rw [O.nx_ok, O.bind_ok]
                  cases h2 : compL tg t (pFz e) (wipeE ρ vs) l with
                  | no => nofun
                  | ok xs => nofun
                  | ex y => exact absurd h2 (ih y)
      have nx0 := nox ds
      rw [List.drop_zero]
      generalize compL tg t (pFz e) (wipeE ρ vs) ds = r at kd' nx0
      cases r with
      | ok xs => exact kd'
      | ex x => exact absurd rfl (nx0 x)
      | no => exact kd'
    · rintro i m H' ⟨rfl, hin, eH, acc, done, hacc, hda, hno, hln, kr⟩
      by_cases hlt : i < ds.length
      · have hM : Ex (hid o H2) H' := hid_le.trans eH
        refine .inr ⟨S.go i H' hlt hM, fun H5 => Ex H2 H5 ∧ ∃ acc done, H5 Dl = some (.lst acc) ∧ DpAll K H5 acc done ∧ noLsts done = true ∧ done.length ≤ i + 1 ∧
          (compL tg t (pFz e) (wipeE ρ vs) (ds.drop (i + 1))).go (fun xs => ∀ v H4, Ex H1 H4 → Kn K H1 H4 v (.list (done ++ xs)) → Q v H4) (fun _ => False),
          fun H5 ⟨z1, z2⟩ => ⟨ds.length - (i + 1), by omega, rfl, hlt, z1, z2⟩, fun y H5 hy => ?_⟩
        obtain ⟨e5, dy⟩ := S.yld i H' y H5 hlt hM hy
        have R' := R2.ex eH
        obtain ⟨d, hd1, hd2⟩ := dy o (fun a ha => R'.fresh ha) (hid_ex eH)
        have hdrop : ds.drop i = d :: ds.drop (i + 1) := by
          rw [List.drop_eq_getElem_cons hlt]
          have := List.getElem?_eq_getElem hlt
          rw [hd1] at this
          rw [← Option.some.inj this]
        rw [hdrop, compL_cons] at kr
        have R5 := ((R'.ex e5).wipe vs)
        refine hg B M o _ _ H5 y d R5 hd2 _ (O.go_mono (O.go_bind.mp kr) (fun ρ' kρ σ' R6 hw => ⟨?_, ?_⟩) fun _ z => z.elim)
        · have := hw vs hv
          rw [this]
          exact (wipe_wipe σ vs)
        · refine ht B M o σ' ρ' H5 R6 H5 ex_rfl _ (O.go_mono (go_nx (O.go_bind.mp kρ)) (fun c kc H6 e6 => ?_) fun _ z => z.elim)
          cases c with
          | true =>
            show te σ' H6 _
            refine he B M o σ' ρ' H5 R6 H6 e6 _ ?_
            have kc' := go_nx (O.go_bind.mp kc)
            have kc2 := O.go_bind.mp kc'
            refine O.go_mono kc2 (fun x kx z H7 e7 p7 => ?_) fun _ z => z.elim
            unfold gFz at kx
            split at kx
            · rename_i hnl
              have kx' := O.go_bind.mp kx
              have h7 : H7 Dl = some (.lst acc) := e7 _ _ (e6 _ _ (e5 _ _ hacc))
              have l7 : acc.length < sizeLine := Evl.sz_lt (by rw [dps_len hda]; omega)
              have lx : Lx H7 (upd H7 Dl (.lst (acc ++ [z]))) := Lx.upd h7
              refine ⟨acc, h7, l7, Evl.Ex.mut (((eH.trans e5).trans e6).trans e7) hD, acc ++ [z], done ++ [x], upd_same, dps_app (dps_lx lx hno (dps_ex ((e5.trans e6).trans e7) hda)) (.cons (dp_lx lx hnl p7) .nil), ?_, by rw [List.length_append]; simp; omega, ?_⟩
              · exact noLsts_app hno (by rw [noLsts, hnl, noLsts] <;> rfl)
              · refine O.go_mono kx' (fun xs kxs v H4 e4 p4 => kxs v H4 e4 ?_) fun _ z => z
                rw [List.append_assoc] at p4
                exact p4
            · exact kx.elim
          | false =>
            show Ex H2 H6 ∧ _
            exact ⟨(eH.trans e5).trans e6, acc, done, e6 _ _ (e5 _ _ hacc), dps_ex (e5.trans e6) hda, hno, by omega, kc⟩
      · have en : i = ds.length := by omega
        subst en
        refine .inl ⟨S.stop H' (hid_le.trans eH), ?_⟩
        rw [List.drop_length] at kr
        have kr' : ∀ v H4, Ex H1 H4 → Kn K H1 H4 v (.list (done ++ [])) → Q v H4 := kr
        rw [List.append_nil] at kr'
        exact kr' _ H' (e2.trans eH) ⟨Dl, acc, done, rfl, rfl, Evl.fresh_back e2 hD, hacc, hda⟩
  · exact kd.elim) fun _ z => z)
end
end Wc

/-! .. statements, defs. -/
namespace Wc
open PySem PySem.Spec PyProof.Rows L2
def RtOk (K : Fg) (B : Hp) (r : Rs) (v : V) (H : Hp) : Prop := match r with
  | .val d => Dp K H v d
  | .new ds => ∃ p xs, v = .ref p ∧ B p = none ∧ H p = some (.lst xs) ∧ DpAll K H xs ds
  | .ob .. => True
def Post (K : Fg) (B M : Hp) (D : Ends) : Out → Prop
  | .nx ρ => ∀ o σ H, Rl K B M o σ ρ H → D.nx σ H
  | .bk ρ => ∀ o σ H, Rl K B M o σ ρ H → D.bk σ H
  | .ct ρ => ∀ o σ H, Rl K B M o σ ρ H → D.ct σ H
  | .rt r ρ => ∀ o σ H v, Rl K B M o σ ρ H → RtOk K B r v H → D.rt v H
def PostX (K : Fg) (B M : Hp) (E : XS) (x : Str) (ρ : MEnv) : Prop := ∀ o σ H, Rl K B M o σ ρ H → E σ (.ref (He.ga K x)) none H
def YS (K : Fg) (E : XS) (t : TS) (m : MS) : Prop := ∀ B M o σ ρ H D, Rl K B M o σ ρ H → (m ρ).all (Post K B M D) (PostX K B M E) → t D σ H
theorem ofO_all {α β : Type} {r : O α} {ρ : MEnv} {f : α → T β} {Q : β → Prop} {X : Str → MEnv → Prop} : (ofO r ρ f).all Q X ↔ r.go (fun a => (f a).all Q X) (fun x => X x ρ) := by
  cases r <;> exact Iff.rfl
section
variable {K : Fg} {E : XS} {ta tb tc te : TE} {t u : TT} {a b c e m : MP} {ts tu tw : TS} {s s' : MS} {i j l : Nat}
theorem ys_next : YS K E tNext sNext := fun B M o σ ρ H D R k => k o σ H R
theorem ys_seq (h : YS K E ts s) (h' : YS K E tu s') : YS K E (tSeq ts tu) (sSeq s s') := fun B M o σ ρ H D R k => h B M o σ ρ H _ R (T.all_mono (fun out z => by
  cases out with
  | nx ρ' => exact fun o' σ' H' R' => h' B M o' σ' ρ' H' D R' z
  | _ => exact z) (fun _ _ z => z) ((T.all_bind (s ρ)).mp k))
theorem ys_set (h : YF K E te a) : YS K E (tAsg te (gName i)) (sSet i a) := fun B M o σ ρ H D R k => h B M o σ ρ H R H ex_rfl _ (O.go_mono (ofO_all.mp k) (fun d kd v H2 e2 p2 => kd o _ H2 ((R.ex e2).set_fz p2)) fun x z H2 e2 => z o σ H2 (R.ex e2))
theorem ys_own (h : YN K E te a) : YS K E (tAsg te (gName i)) (sOwn i a) := fun B M o σ ρ H D R k => h B M o σ ρ H R H ex_rfl _ (O.go_mono (O.go_bind.mp (ofO_all.mp k)) (fun d kd v H2 e2 p2 => by
  obtain ⟨p, xs, ds, rfl, rfl, h0, h1, h2⟩ := p2
  unfold gOwn at kd
  dsimp only at kd
  split at kd
  · rename_i n
    have R2 : Rl K B M (own1 o p i) σ ρ H2 := R.own h0 e2 h1 (by simp) (by simp)
    exact kd _ _ H2 (R2.set (s := some (.ref p)) (c := .own ds) ⟨p, xs, rfl, own1_at, R.base p h0, h1, n, dps_hid R2 n h2⟩)
  · exact kd.elim) fun x z H2 e2 => z o σ H2 (R.ex e2))
theorem ys_ret (h : YT K E te a) : YS K E (tRet te) (sRet a) := fun B M o σ ρ H D R k => h B M o σ ρ H R H ex_rfl _ (O.go_mono (ofO_all.mp k) (fun d kd v H2 e2 p2 => kd o σ H2 v (R.ex e2) p2) fun x z H2 e2 => z o σ H2 (R.ex e2))
theorem ys_retn (h : YN K E te a) : YS K E (tRet te) (sRetN a) := fun B M o σ ρ H D R k => h B M o σ ρ H R H ex_rfl _ (O.go_mono (ofO_all.mp k) (fun d kd v H2 e2 p2 => by
  obtain ⟨p, xs, ds, rfl, rfl, h0, h1, h2⟩ := p2
  exact kd o σ H2 _ (R.ex e2) ⟨p, xs, rfl, R.base p h0, h1, h2⟩) fun x z H2 e2 => z o σ H2 (R.ex e2))
theorem ys_reto : YS K E (tRet (tVar i)) (sRetO i) := fun B M o σ ρ H D R k => by
  have h := R.cell i
  unfold sRetO at k
  generalize at_ ρ i = c at h k
  cases c with
  | own ds =>
    obtain ⟨p, xs, h1, h2, h3, h4, h5, h6⟩ := h
    exact ⟨_, h1, k o σ H _ R ⟨p, xs, rfl, h3, h4, dps_ex hid_le h6⟩⟩
  | _ => exact k.elim
theorem ys_drop (h : YT K E te a) : YS K E (tDrop te) (sDrop a) := fun B M o σ ρ H D R k => h B M o σ ρ H R H ex_rfl _ (O.go_mono (ofO_all.mp k) (fun d kd v H2 e2 p2 => kd o σ H2 (R.ex e2)) fun x z H2 e2 => z o σ H2 (R.ex e2))
theorem ys_if {x : MB} (h : YB K E t x) (h1 : YS K E ts s) (h2 : YS K E tu s') : YS K E (tIfS t ts tu) (sIf x s s') := fun B M o σ ρ H D R k => h B M o σ ρ H R H ex_rfl _ (O.go_mono (ofO_all.mp k) (fun c kc H2 e2 => by
  cases c with
  | true => exact h1 B M o σ ρ H2 D (R.ex e2) kc
  | false => exact h2 B M o σ ρ H2 D (R.ex e2) kc) fun x z H2 e2 => z o σ H2 (R.ex e2))
theorem ys_rz {x : Str} {E0 : XK} : YS K (fun _ => E0) (tRz K x E0) (sRz x) := fun B M o σ ρ H D R k => k o σ H R
/-- loops -/
theorem ys_for {wi : TI} {g : TG} {src : MI} {tg : Tg} (hs : YI K E wi src) (hg : YTg K g tg) (hb : YS K E ts s) : YS K E (tFor wi g ts) (sFor src tg s) := fun B M o σ ρ H D R k => hs B M o σ ρ H R H ex_rfl _ (O.go_mono (ofO_all.mp k) (fun ds kd J H2 e2 S => by
  have R2 := R.ex e2
  refine ⟨fun i m σ' H' => m = ds.length - i ∧ i ≤ ds.length ∧ ∃ o' ρ', Rl K B (hid o H2) o' σ' ρ' H' ∧ (forL tg s (ds.drop i) ρ').all (Post K B M D) (PostX K B M E), ⟨ds.length, by simp, Nat.zero_le _, o, ρ, R2.strong, kd⟩, ?_⟩
  rintro i m σ' H' ⟨rfl, hin, o', ρ', R', k'⟩
  have hM : Ex (hid o H2) H' := R'.keep.trans hid_le
  by_cases hlt : i < ds.length
  · refine .inr ⟨S.go i H' hlt hM, fun σ5 H5 => ∃ o' ρ', Rl K B (hid o H2) o' σ5 ρ' H5 ∧ (forL tg s (ds.drop (i + 1)) ρ').all (Post K B M D) (PostX K B M E), fun σ5 H5 ⟨o5, ρ5, z1, z2⟩ => ⟨ds.length - (i + 1), by omega, rfl, hlt, o5, ρ5, z1, z2⟩, fun y H5 hy => ?_⟩
    obtain ⟨e5, dy⟩ := S.yld i H' y H5 hlt hM hy
    obtain ⟨d, hd1, hd2⟩ := dy o' (fun a ha => R'.fresh ha) R'.keep
    have hdrop : ds.drop i = d :: ds.drop (i + 1) := by
      rw [List.drop_eq_getElem_cons hlt]
      have := List.getElem?_eq_getElem hlt
      rw [hd1] at this
      rw [← Option.some.inj this]
    rw [hdrop] at k'
    have k2 := ofO_all.mp (show (ofO (tg.put d ρ') ρ' fun ρ1 => (s ρ1).bind (forK (forL tg s (ds.drop (i + 1))))).all _ _ from k')
    have nop : ∀ x, tg.put d ρ' ≠ .ex x := by
      intro x
      unfold Tg.put
      split <;> nofun
    refine hg B (hid o H2) o' σ' ρ' H5 y d (R'.ex e5) hd2 _ ?_
    generalize tg.put d ρ' = r at k2 nop
    cases r with
    | no => exact k2
    | ex x => exact absurd rfl (nop x)
    | ok ρ1 =>
      intro σ6 R6 _
      refine hb B (hid o H2) o' σ6 ρ1 H5 _ R6 (T.all_mono (fun out z => ?_) (fun x ρ z o σ H Rx => z o σ H (Rx.weak R2.keep)) ((T.all_bind (s ρ1)).mp k2))
      cases out with
      | nx ρ7 => exact fun o7 σ7 H7 R7 => ⟨o7, ρ7, R7, z⟩
      | ct ρ7 => exact fun o7 σ7 H7 R7 => ⟨o7, ρ7, R7, z⟩
      | bk ρ7 => exact fun o7 σ7 H7 R7 => z o7 σ7 H7 (R7.weak R2.keep)
      | rt r ρ7 => exact fun o7 σ7 H7 v R7 hr => z o7 σ7 H7 v (R7.weak R2.keep) hr
  · have en : i = ds.length := by omega
    subst en
    rw [List.drop_length] at k'
    exact .inl ⟨S.stop H' hM, k' o' σ' H' (R'.weak R2.keep)⟩) fun x z H2 e2 => z o σ H2 (R.ex e2))
theorem ys_while {x : MB} (h : YB K E t x) (hb : YS K E ts s) : YS K E (tWhile t ts) (sWhile x s) := fun B M o σ ρ H D R k => by
  refine ⟨fun m σ' H' => ∃ o' ρ', Rl K B M o' σ' ρ' H' ∧ (whN x s m ρ').all (Post K B M D) (PostX K B M E), ⟨1000000, o, ρ, R, k⟩, ?_⟩
  rintro m σ' H' ⟨o', ρ', R', k'⟩
  cases m with
  | zero => exact k'.elim
  | succ m =>
    have k2 := ofO_all.mp (show (ofO (x ρ') ρ' fun c => bif c then (s ρ').bind (forK (whN x s m)) else .ret (.nx ρ')).all _ _ from k')
    refine h B M o' σ' ρ' H' R' H' ex_rfl _ (O.go_mono k2 (fun c kc H2 e2 => ?_) (fun x z H2 e2 => z o' σ' H2 (R'.ex e2)))
    cases c with
    | true =>
      refine ⟨fun σ5 H5 => ∃ o5 ρ5, Rl K B M o5 σ5 ρ5 H5 ∧ (whN x s m ρ5).all (Post K B M D) (PostX K B M E), fun σ5 H5 ⟨o5, ρ5, z1, z2⟩ => ⟨m, Nat.lt_succ_self m, o5, ρ5, z1, z2⟩, ?_⟩
      refine hb B M o' σ' ρ' H2 _ (R'.ex e2) (T.all_mono (fun out z => ?_) (fun x ρ z => z) ((T.all_bind (s ρ')).mp kc))
      cases out with
      | nx ρ7 => exact fun o7 σ7 H7 R7 => ⟨o7, ρ7, R7, z⟩
      | ct ρ7 => exact fun o7 σ7 H7 R7 => ⟨o7, ρ7, R7, z⟩
      | bk ρ7 => exact fun o7 σ7 H7 R7 => z o7 σ7 H7 R7
      | rt r ρ7 => exact fun o7 σ7 H7 v R7 hr => z o7 σ7 H7 v R7 hr
    | false => exact kc o' σ' H2 (R'.ex e2)
/-- a list of ours changes -/
theorem own_mut {B M : Hp} {o : Addr → Option Nat} {σ : L2.St} {ρ : MEnv} {H : Hp} {es : List Dt} {ys : List V} {p : Addr} (R : Rl K B M o σ ρ H) (h1 : σ[i]? = some (some (.ref p))) (h2 : o p = some i) (h3 : B p = none) (n : noLsts es = true) (hd : DpAll K H ys es) :
    Rl K B M o σ (ρ.set i (.own es)) (L2.upd H p (.lst ys)) := by
  refine R.mut h2 (by simp) (by simp) ⟨p, ys, h1, h2, h3, upd_same, n, ?_⟩
  have := dps_hid R n hd
  rw [hid_upd (by rw [h2]; nofun)]
  exact this
theorem own_at {B M : Hp} {o : Addr → Option Nat} {σ : L2.St} {ρ : MEnv} {H : Hp} {β : Type} {f : List Dt → T β} {Q : β → Prop} {X : Str → MEnv → Prop} (R : Rl K B M o σ ρ H) (k : (ownC (at_ ρ i) f).all Q X) :
    ∃ ds p xs, (f ds).all Q X ∧ at_ ρ i = .own ds ∧ σ[i]? = some (some (.ref p)) ∧ o p = some i ∧ B p = none ∧ H p = some (.lst xs) ∧ noLsts ds = true ∧ DpAll K H xs ds := by
  have h := R.cell i
  generalize at_ ρ i = c at h k
  cases c with
  | own ds =>
    obtain ⟨p, xs, h1, h2, h3, h4, h5, h6⟩ := h
    exact ⟨ds, p, xs, k, rfl, h1, h2, h3, h4, h5, dps_ex hid_le h6⟩
  | _ => exact k.elim
theorem ys_app (h : YT K E te a) : YS K E (tDrop (tBM K "list" rAppend (tVar i) (tCons te tNil))) (sApp i a) := fun B M o σ ρ H D R k => by
  obtain ⟨ds, p, xs, k, q0, h1, h2, h3, h4, h5, h6⟩ := own_at R k
  refine ⟨.ref p, h1, tyv_l h4, h B M o σ ρ H R H ex_rfl _ (O.go_mono (ofO_all.mp k) (fun d kd v H2 e2 p2 => ?_) fun x z H2 e2 => z o σ H2 (R.ex e2))⟩
  have kd' := ofO_all.mp kd
  unfold gApp at kd'
  split at kd'
  · rename_i c
    refine ⟨p, xs, v, rfl, rfl, e2 _ _ h4, Evl.sz_lt (by rw [dps_len h6]; exact c.2), ?_⟩
    exact kd' o σ _ (own_mut (R.ex e2) h1 h2 h3 (noLsts_app h5 (by rw [noLsts, c.1, noLsts] <;> rfl)) (dps_app (dps_ex e2 h6) (.cons p2 .nil)))
  · exact kd'.elim
theorem ys_ext (h : YL K E te a) : YS K E (tAug i te rExt2) (sExt i a) := fun B M o σ ρ H D R k => by
  obtain ⟨ds, p, xs, k, q0, h1, h2, h3, h4, h5, h6⟩ := own_at R k
  refine ⟨.ref p, h1, h B M o σ ρ H R H ex_rfl _ (O.go_mono (ofO_all.mp k) (fun d kd v H2 e2 p2 => ?_) fun x z H2 e2 => z o σ H2 (R.ex e2))⟩
  have kd' := ofO_all.mp kd
  obtain ⟨q, ys, es, rfl, rfl, g1, g2⟩ := p2
  unfold gExt at kd'
  dsimp only at kd'
  split at kd'
  · rename_i c
    refine ⟨p, q, xs, ys, rfl, rfl, e2 _ _ h4, g1, Evl.sz_of (by rw [dps_len h6, dps_len g2]; exact c.2), ?_⟩
    have R3 := own_mut (R.ex e2) h1 h2 h3 (noLsts_app h5 c.1) (dps_app (dps_ex e2 h6) g2)
    have e : σ.set i (some (.ref p)) = σ := by
      apply List.ext_getElem?
      intro j
      by_cases hj : i = j
      · subst hj
        rw [h1]
        exact List.getElem?_set_self (List.getElem?_eq_some_iff.mp h1).1
      · rw [List.getElem?_set_ne hj]
    show D.nx (σ.set i (some (.ref p))) _
    rw [e]
    exact kd' o σ _ R3
  · exact kd'.elim
theorem setD_ok {H : Hp} {ds es : List Dt} {d k : Dt} {xs : List V} {v u : V} {X : Prop} (h : (setD ds d k).go (fun es => es = es ∧ X) (fun _ => False) → X) : True := trivial
theorem setD_spec {K' : List Dt → Prop} {X : Str → Prop} {ds : List Dt} {d k : Dt} (h : (setD ds d k).go K' X) : ∃ n j, k = .int n ∧ L2.ixN ds.length n = some j ∧ noLst d = true ∧ K' (ds.set j d) := by
  unfold setD at h
  split at h
  · split at h
    · split at h
      · exact ⟨_, _, rfl, by assumption, by assumption, h⟩
      · exact h.elim
    · exact h.elim
  · exact h.elim
theorem dps_set {H : Hp} : ∀ {xs : List V} {ds : List Dt} {j : Nat} {v : V} {d : Dt}, DpAll K H xs ds → Dp K H v d → DpAll K H (xs.set j v) (ds.set j d)
  | _, _, _, _, _, .nil, _ => .nil
  | _, _, 0, _, _, .cons _ t, h => .cons h t
  | _, _, _ + 1, _, _, .cons a t, h => .cons a (dps_set t h)
theorem noLsts_set : ∀ {ds : List Dt} {j : Nat} {d : Dt}, noLsts ds = true → noLst d = true → noLsts (ds.set j d) = true
  | [], _, _, _, _ => by simp [noLsts]
  | x :: r, 0, d, h, n => by
    rw [noLsts, Bool.and_eq_true] at h
    rw [List.set_cons_zero, noLsts, n, h.2] <;> rfl
  | x :: r, j + 1, d, h, n => by
    rw [noLsts, Bool.and_eq_true] at h
    rw [List.set_cons_succ, noLsts, h.1, noLsts_set h.2 n] <;> rfl
theorem ys_put (hv : YT K E tb b) (he : YT K E te e) : YS K E (tAsg tb (gSub (tVar i) te rSetL)) (sPut i e b) := fun B M o σ ρ H D R k => hv B M o σ ρ H R H ex_rfl _ (O.go_mono (ofO_all.mp k) (fun d kd v H2 e2 p2 => by
  have R2 := R.ex e2
  obtain ⟨ds, p, xs, k, q0, h1, h2, h3, h4, h5, h6⟩ := own_at R2 kd
  refine ⟨.ref p, h1, he B M o σ ρ H2 R2 H2 ex_rfl _ (O.go_mono (ofO_all.mp k) (fun k0 kk u H3 e3 p3 => ?_) fun x z H3 e3 => z o σ H3 (R2.ex e3))⟩
  obtain ⟨n, j, rfl, hj, hn, kk⟩ := setD_spec (ofO_all.mp kk)
  obtain rfl := dp_int p3
  exact ⟨p, xs, n, j, rfl, rfl, e3 _ _ h4, by rw [dps_len h6]; exact hj, kk o σ _ (own_mut (R2.ex e3) h1 h2 h3 (noLsts_set h5 hn) (dps_set (dps_ex e3 h6) (dp_ex e3 p2)))⟩) fun x z H2 e2 => z o σ H2 (R.ex e2))
theorem ys_augI (hv : YT K E tb b) (he : YT K E te e) : YS K E (tAugS (tVar i) te tb (rIxL K) (ipI fun i j => i + j) rSetL) (sAugI i e b) := fun B M o σ ρ H D R k => by
  obtain ⟨ds, p, xs, k, q0, h1, h2, h3, h4, h5, h6⟩ := own_at R k
  refine ⟨.ref p, h1, he B M o σ ρ H R H ex_rfl _ (O.go_mono (ofO_all.mp k) (fun k0 kk u H2 e2 p2 => ?_) fun x z H2 e2 => z o σ H2 (R.ex e2))⟩
  have kk' := ofO_all.mp kk
  cases q : hIx (.list ds) k0 with
  | no => rw [q] at kk'; exact kk'.elim
  | ex x => exact absurd q ((ho_ix (K := K) (.list ds) k0).1 x)
  | ok x0 =>
    rw [q] at kk'
    unfold hIx at q
    split at q
    · rename_i _ _ ds' n heq
      cases heq
      split at q
      · rename_i d0 hat
        cases q
        obtain rfl := dp_int p2
        obtain ⟨w, w1, w2⟩ := atI_dps (dps_ex e2 h6) hat
        refine ⟨p, xs, n, w, rfl, rfl, SqL.of (e2 _ _ h4), w1, hv B M o σ ρ H2 (R.ex e2) H2 ex_rfl _ (O.go_mono (ofO_all.mp kk') (fun d kd v H3 e3 p3 => ?_) fun x z H3 e3 => z o σ H3 ((R.ex e2).ex e3))⟩
        have kd' := ofO_all.mp kd
        unfold augD hIx at kd'
        dsimp only at kd'
        rw [hat] at kd'
        dsimp only [O.bind_ok] at kd'
        unfold hAdd at kd'
        split at kd'
        · obtain rfl := dp_int w2
          obtain rfl := dp_int p3
          obtain ⟨n', j, z1, hj, hn, kk⟩ := setD_spec (show (setD ds (.int _) (.int n)).go _ _ from kd')
          cases z1
          exact ⟨_, _, rfl, rfl, p, xs, n, j, rfl, rfl, e3 _ _ (e2 _ _ h4), by rw [dps_len h6]; exact hj, kk o σ _ (own_mut ((R.ex e2).ex e3) h1 h2 h3 (noLsts_set h5 hn) (dps_set (dps_ex (e2.trans e3) h6) (.int _)))⟩
        · exact kd'.elim
      · cases q
    · rename_i heq
      cases heq
    · cases q
theorem ys_aug (hv : YT K E te a) : YS K E (tAug i te (ipI fun i j => i + j)) (sAug i a) := fun B M o σ ρ H D R k => by
  have h := R.cell i
  unfold sAug at k
  generalize at_ ρ i = c at h k
  cases c with
  | val d0 =>
    obtain ⟨w, h1, h2⟩ := h
    refine ⟨w, h1, hv B M o σ ρ H R H ex_rfl _ (O.go_mono (ofO_all.mp k) (fun d kd v H2 e2 p2 => ?_) fun x z H2 e2 => z o σ H2 (R.ex e2))⟩
    have kd' := ofO_all.mp kd
    unfold augC at kd'
    split at kd'
    · rename_i heq
      cases heq
      obtain rfl := dp_int h2
      obtain rfl := dp_int p2
      exact ⟨_, _, rfl, rfl, kd' o _ H2 ((R.ex e2).set (s := some (.int _)) ⟨_, rfl, .int _⟩)⟩
    · exact kd'.elim
  | _ => exact k.elim
theorem remI_spec {k : Int} : ∀ {ns ms : List Int}, remI k ns = some ms → ∃ j, ns[j]? = some k ∧ (∀ m : Nat, m < j → ns[m]? ≠ some k) ∧ ms = ns.eraseIdx j
  | [], _, h => by cases h
  | x :: r, ms, h => by
    unfold remI at h
    split at h
    · rename_i c
      cases h
      subst c
      exact ⟨0, rfl, nofun, rfl⟩
    · rename_i c
      cases q : remI k r with
      | none => rw [q] at h; cases h
      | some l =>
        rw [q] at h
        have e : x :: l = ms := Option.some.inj h
        subst e
        obtain ⟨j, h1, h2, h3⟩ := remI_spec q
        refine ⟨j + 1, h1, fun m hm => ?_, by rw [List.eraseIdx_cons_succ, h3]⟩
        cases m with
        | zero => exact fun z => c (Option.some.inj z)
        | succ m => exact h2 m (by omega)
theorem ys_rem (h : YT K E te a) : YS K E (tDrop (tBM K "list" rRemI (tVar i) (tCons te tNil))) (sRem i a) := fun B M o σ ρ H D R k => by
  obtain ⟨ds, p, xs, k, q0, h1, h2, h3, h4, h5, h6⟩ := own_at R k
  refine ⟨.ref p, h1, tyv_l h4, h B M o σ ρ H R H ex_rfl _ (O.go_mono (ofO_all.mp k) (fun d kd v H2 e2 p2 => ?_) fun x z H2 e2 => z o σ H2 (R.ex e2))⟩
  have kd' := ofO_all.mp kd
  cases d with
  | int k0 =>
    unfold remD at kd'
    dsimp only at kd'
    cases c : intsOf ds with
    | none => rw [c] at kd'; exact kd'.elim
    | some ns =>
      rw [c] at kd'
      dsimp only at kd'
      cases c2 : remI k0 ns with
      | none => rw [c2] at kd'; exact kd'.elim
      | some ms =>
        rw [c2] at kd'
        obtain rfl := intsOf_eq c
        obtain rfl := of_dps_ints h6
        obtain rfl := dp_int p2
        obtain ⟨j, j1, j2, rfl⟩ := remI_spec c2
        exact ⟨p, ns, _, j, rfl, rfl, e2 _ _ h4, j1, j2, kd' o σ _ (own_mut (R.ex e2) h1 h2 h3 (noLsts_ints _) (dps_ints _))⟩
  | _ => exact kd'.elim
theorem ys_par (ha : YF K E ta a) (hb : YF K E tb b) : YS K E (tPar i j (tCons ta (tCons tb tNil))) (sPar i j a b) := fun B M o σ ρ H D R k => ha B M o σ ρ H R H ex_rfl _ (O.go_mono (ofO_all.mp k) (fun d kd v H2 e2 p2 => hb B M o σ ρ H R H2 e2 _ (O.go_mono (ofO_all.mp kd) (fun e ke u H3 e3 p3 => by
  have R3 := R.ex (e2.trans e3)
  exact ⟨v, u, rfl, ke o _ H3 ((R3.set_fz (p2.ex e3)).set_fz p3)⟩) fun x z H3 e3 => z o σ H3 (R.ex (e2.trans e3)))) fun x z H2 e2 => z o σ H2 (R.ex e2))
theorem ys_par3 (ha : YF K E ta a) (hb : YF K E tb b) (hc : YF K E tc c) : YS K E (tPar3 i j l (tCons ta (tCons tb (tCons tc tNil)))) (sPar3 i j l a b c) := fun B M o σ ρ H D R k => ha B M o σ ρ H R H ex_rfl _ (O.go_mono (ofO_all.mp k) (fun d kd v H2 e2 p2 => hb B M o σ ρ H R H2 e2 _ (O.go_mono (ofO_all.mp kd) (fun e ke u H3 e3 p3 => hc B M o σ ρ H R H3 (e2.trans e3) _ (O.go_mono (ofO_all.mp ke) (fun f kf x H4 e4 p4 => by
  have R4 := R.ex ((e2.trans e3).trans e4)
  exact ⟨v, u, x, rfl, kf o _ H4 (((R4.set_fz ((p2.ex e3).ex e4)).set_fz (p3.ex e4)).set_fz p4)⟩) fun x z H4 e4 => z o σ H4 (R.ex ((e2.trans e3).trans e4)))) fun x z H3 e3 => z o σ H3 (R.ex (e2.trans e3)))) fun x z H2 e2 => z o σ H2 (R.ex e2))
theorem gOwn_spec {K' : List Dt → Prop} {X : Str → Prop} {d : Dt} (h : (gOwn d).go K' X) : ∃ ds, d = .list ds ∧ noLsts ds = true ∧ K' ds := by
  unfold gOwn at h
  split at h
  · split at h
    · exact ⟨_, rfl, by assumption, h⟩
    · exact h.elim
  · exact h.elim
theorem gFz_spec {K' : Dt → Prop} {X : Str → Prop} {d : Dt} (h : (gFz d).go K' X) : noLst d = true ∧ K' d := by
  unfold gFz at h
  split at h
  · exact ⟨by assumption, h⟩
  · exact h.elim
theorem ys_parO (ha : YN K E ta a) (hb : YN K E tb b) (hij : i ≠ j := by decide) : YS K E (tPar i j (tCons ta (tCons tb tNil))) (sParO i j a b) := fun B M o σ ρ H D R k => ha B M o σ ρ H R H ex_rfl _ (O.go_mono (O.go_bind.mp (ofO_all.mp k)) (fun d kd v H2 e2 p2 => by
  obtain ⟨ds, rfl, n1, kd⟩ := gOwn_spec kd
  refine hb B M o σ ρ H R H2 e2 _ (O.go_mono (O.go_bind.mp (ofO_all.mp kd)) (fun e ke u H3 e3 p3 => ?_) fun x z H3 e3 => z o σ H3 (R.ex (e2.trans e3)))
  obtain ⟨es, rfl, n2, ke⟩ := gOwn_spec ke
  obtain ⟨p, xs, _, rfl, q1, h0, h1, h2⟩ := p2
  cases q1
  obtain ⟨q, ys, _, rfl, q1, g0, g1, g2⟩ := p3
  cases q1
  refine ⟨_, _, rfl, ?_⟩
  have R2 : Rl K B M (own1 o p i) σ ρ H2 := R.own h0 e2 h1 (by simp) (by simp)
  have R2' := R2.set (i := i) (s := some (.ref p)) (c := .own ds) ⟨p, xs, rfl, own1_at, R.base p h0, h1, n1, dps_hid R2 n1 h2⟩
  have R3 : Rl K B M (own1 (own1 o p i) q j) (σ.set i (some (.ref p))) (ρ.set i (.own ds)) H3 := R2'.own g0 e3 g1 (by simp) (by simp)
  exact ke _ _ H3 (R3.set (i := j) (s := some (.ref q)) (c := .own es) ⟨q, ys, rfl, own1_at, R.base q (Evl.fresh_back e2 g0), g1, n2, dps_hid R3 n2 g2⟩)) fun x z H2 e2 => z o σ H2 (R.ex e2))
theorem ys_par3O (ha : YN K E ta a) (hb : YT K E tb b) (hc : YT K E tc c) : YS K E (tPar3 i j l (tCons ta (tCons tb (tCons tc tNil)))) (sPar3O i j l a b c) := fun B M o σ ρ H D R k => ha B M o σ ρ H R H ex_rfl _ (O.go_mono (O.go_bind.mp (ofO_all.mp k)) (fun d kd v H2 e2 p2 => by
  obtain ⟨ds, rfl, n1, kd⟩ := gOwn_spec kd
  refine hb B M o σ ρ H R H2 e2 _ (O.go_mono (O.go_bind.mp (ofO_all.mp kd)) (fun e ke u H3 e3 p3 => ?_) fun x z H3 e3 => z o σ H3 (R.ex (e2.trans e3)))
  obtain ⟨n2, ke⟩ := gFz_spec ke
  refine hc B M o σ ρ H R H3 (e2.trans e3) _ (O.go_mono (O.go_bind.mp (ofO_all.mp ke)) (fun f kf x H4 e4 p4 => ?_) fun x z H4 e4 => z o σ H4 (R.ex ((e2.trans e3).trans e4)))
  obtain ⟨n3, kf⟩ := gFz_spec kf
  obtain ⟨p, xs, _, rfl, q1, h0, h1, h2⟩ := p2
  cases q1
  refine ⟨_, _, _, rfl, ?_⟩
  have R4 : Rl K B M (own1 o p i) σ ρ H4 := R.own h0 ((e2.trans e3).trans e4) ((e3.trans e4) _ _ h1) (by simp) (by simp)
  have R5 := R4.set (i := i) (s := some (.ref p)) (c := .own ds) ⟨p, xs, rfl, own1_at, R.base p h0, (e3.trans e4) _ _ h1, n1, dps_hid R4 n1 (dps_ex (e3.trans e4) h2)⟩
  exact kf _ _ H4 ((R5.set_fz (i := j) (fz_nolst R4 n2 (dp_ex e4 p3))).set_fz (i := l) (fz_nolst R4 n3 p4))) fun x z H2 e2 => z o σ H2 (R.ex e2))
end
/-! ### defs -/
theorem start_rl {K : Fg} {H : Hp} {vs : List V} {ds : List Dt} {N : List Str} (hd : DpAll K H vs ds) : Rl K H H (fun _ => none) (L2.start N vs) (ds.map .val ++ List.replicate (N.length - ds.length) .no) H := by
  have hh : hid (fun _ => none) H = H := by
    funext a
    exact hid_at rfl
  have hl := dps_len hd
  refine ⟨?_, fun i => ?_, by rw [hh]; exact ex_rfl, fun _ h => h, nofun⟩
  · unfold L2.start
    rw [List.length_append, List.length_append, List.length_map, List.length_map, List.length_replicate, List.length_replicate, hl]
  · by_cases hi : i < ds.length
    · obtain ⟨v, h1, h2⟩ := dps_get hd (List.getElem?_eq_getElem hi)
      have e1 : (L2.start N vs)[i]? = some (some v) := by
        unfold L2.start
        rw [List.getElem?_append_left (by rw [List.length_map, hl]; exact hi), List.getElem?_map, h1] <;> rfl
      have e2 : at_ (ds.map .val ++ List.replicate (N.length - ds.length) .no) i = .val ds[i] := by
        unfold at_
        rw [List.getElem?_append_left (by rw [List.length_map]; exact hi), List.getElem?_map, List.getElem?_eq_getElem hi] <;> rfl
      rw [e1, e2]
      exact ⟨v, rfl, by rw [hh]; exact h2⟩
    · have e2 : at_ (ds.map .val ++ List.replicate (N.length - ds.length) .no) i = .no := by
        unfold at_
        rw [List.getElem?_append_right (by rw [List.length_map]; omega), List.getElem?_replicate]
        split <;> rfl
      rw [e2]
      trivial
theorem mir_go {K : Fg} {E : XK} {H : Hp} {vs : List V} {ds : List Dt} {N : List Str} {t : TS} {s : MS} {r : Res} {Q : VK} {ar : Nat} (hY : YS K (fun _ => E) t s) (hd : DpAll K H vs ds) (hf : FM (mkF ar N.length s) ds r) (hk : r.go K H Q E) : t { nx := fun _ H' => Q .non H', rt := Q } (L2.start N vs) H := by
  have hh : hid (fun _ => (none : Option Nat)) H = H := by
    funext a
    exact hid_at rfl
  refine hY H H _ _ _ H _ (start_rl (N := N) hd) ?_
  have ha : ds.length = ar := by
    unfold FM mkF at hf
    by_cases q : ds.length = ar
    · exact q
    · rw [if_neg q] at hf
      exact hf.elim
  unfold FM mkF at hf
  rw [if_pos ha] at hf
  have ex : ∀ {o : Addr → Option Nat} {σ : L2.St} {ρ : MEnv} {H' : Hp}, Rl K H H o σ ρ H' → Ex H H' := fun R => R.keep.trans hid_le
  generalize s (ds.map .val ++ List.replicate (N.length - ds.length) .no) = z at hf ⊢
  cases z with
  | ret out =>
    cases out with
    | nx ρ =>
      cases hf
      exact fun o σ H' R => hk .non H' (ex R) .non
    | rt r' ρ =>
      cases r' with
      | val d =>
        cases hf
        exact fun o σ H' v R hr => hk v H' (ex R) hr
      | new es =>
        cases hf
        exact fun o σ H' v R hr => by
          obtain ⟨p, xs, rfl, h0, h1, h2⟩ := hr
          exact hk p xs H' h0 (ex R) h1 h2
      | ob _ _ _ _ =>
        cases hf
        exact fun o σ H' v R _ => hk v H' (ex R)
    | bk ρ => exact hf.elim
    | ct ρ => exact hf.elim
  | exc x ρ =>
    cases hf
    exact fun o σ H' R => hk H' (ex R)
  | any φ k => exact hf.elim
  | fresh k => exact hf.elim
  | no => exact hf.elim
section
variable {P : Program} {w : World} {K : Fg} {mg : Str → Option Value} {base : Heap}
theorem Df.calM {x : Str} {st : Stmt} {N ps : List Str} {k n : Nat} {s : MS} (Z : Df K mg x st) (S : FnScope N ps (defScope st))
    (hbi : ∀ (kV doc pm : Value) (an : Option Addr) (cdv ct : Value) (us : List Value), us.length = ps.length → bindArgs (PySem.W.fnOf x x (defArgs st) (defBody st) (defScope st) .none kV doc pm an cdv ct) ⟨us, []⟩ = pure (ps.zip us)) (hn : N.length = n)
    (hbody : ∀ (f : Addr) (cdv : Value) (A : Around) (outer : List PySem.Env) (s0 : Shared) (H : Hp) (E : XK), Room k (A.deeper (envOfC x (defScope st) s0.heap.objs.size f cdv)) →
      ∃ t, PSs (cxOf (L2.CX P w) P w K mg base N x (defScope st) f cdv A outer s0 H E) (defBody st) t ∧ YS K (fun _ => E) t s) : Cal P w K mg base x ps (k + 1) (spF K (FM (mkF ps.length n s))) :=
  Z.calF S hbi (fun ds r h => by
    unfold FM mkF at h
    by_cases q : ds.length = ps.length
    · exact q
    · rw [if_neg q] at h
      exact h.elim) fun f cdv A outer s0 H vs Q E ds r hr hd hf hk => by
    subst hn
    obtain ⟨t, h1, h2⟩ := hbody f cdv A outer s0 H E hr
    exact ⟨t, h1, mir_go h2 hd hf hk⟩
end
end Wc

/-! .. readings that draw. -/
namespace Wc
open PySem PySem.Spec PyProof.Rows L2
abbrev sIn : Str := PySem.Str.ofString "in"
abbrev sOut : Str := PySem.Str.ofString "out"
abbrev gear (N w : Int) (s : Str) : Dt := .tuple [.int N, .int w, .str s]
structure Gok (N w : Int) (s : Str) : Prop where
  n3 : 3 ≤ N
  n150 : N ≤ 150
  w2 : 2 ≤ w
  w150 : w ≤ 150
  side : (s = sIn ∧ w < N) ∨ s = sOut
def spGear (K : Fg) : Sp := fun vs H Q _ => ∃ (p q : Addr), vs = [.ref p] ∧ Dr H p q ∧ ∀ v N w s H2, Gok N w s → Exd p q H H2 → Dr H2 p q → Dp K (msk p q H2) v (gear N w s) → Q v H2
abbrev MX (α : Type) := MEnv → T (α × MEnv)
def YW (K : Fg) (E : XS) (te : TE) (m : MX Dt) : Prop := ∀ B M o σ ρ H, Rl K B M o σ ρ H → ∀ Q : VK,
  (m ρ).all (fun z => ∀ o' v H', Rl K B M o' σ z.2 H' → FzOk K o' H' v z.1 → Q v H') (fun x ρ' => ∀ o' H', Rl K B M o' σ ρ' H' → E σ (.ref (He.ga K x)) none H') → te σ H Q
def YWA (K : Fg) (E : XS) (ta : TA) (m : MX (List Dt)) : Prop := ∀ B M o σ ρ H, Rl K B M o σ ρ H → ∀ Q : List V → Hp → Prop,
  (m ρ).all (fun z => ∀ o' vs H', Rl K B M o' σ z.2 H' → DpAll K (hid o' H') vs z.1 → Q vs H') (fun x ρ' => ∀ o' H', Rl K B M o' σ ρ' H' → E σ (.ref (He.ga K x)) none H') → ta σ H Q
def YWB (K : Fg) (E : XS) (tt : TT) (m : MX Bool) : Prop := ∀ B M o σ ρ H, Rl K B M o σ ρ H → ∀ Q : Bool → Hp → Prop,
  (m ρ).all (fun z => ∀ o' H', Rl K B M o' σ z.2 H' → Q z.1 H') (fun x ρ' => ∀ o' H', Rl K B M o' σ ρ' H' → E σ (.ref (He.ga K x)) none H') → tt σ H Q
def wP (a : MP) : MX Dt := fun ρ => ofO (a ρ) ρ fun d => .ret (d, ρ)
def wPB (a : MB) : MX Bool := fun ρ => ofO (a ρ) ρ fun d => .ret (d, ρ)
def wO {α : Type} (r : O α) (ρ : MEnv) : T (α × MEnv) := ofO r ρ fun d => .ret (d, ρ)
@[simp] theorem wO_ok {α : Type} {a : α} {ρ : MEnv} : wO (.ok a) ρ = .ret (a, ρ) := rfl
def wOp (h : Dt → Dt → O Dt) (a b : MX Dt) : MX Dt := fun ρ => (a ρ).bind fun x => (b x.2).bind fun y => wO ((h x.1 y.1).bind gFz) y.2
def wUn (h : Dt → O Dt) (a : MX Dt) : MX Dt := fun ρ => (a ρ).bind fun x => wO ((h x.1).bind gFz) x.2
def wIf (t : MX Bool) (a b : MX Dt) : MX Dt := fun ρ => (t ρ).bind fun c => bif c.1 then a c.2 else b c.2
def wTest (a : MX Dt) : MX Bool := fun ρ => (a ρ).bind fun x => wO (asB x.1) x.2
def wAnd (a b : MX Bool) : MX Bool := fun ρ => (a ρ).bind fun x => bif x.1 then b x.2 else .ret (false, x.2)
def wOr (a b : MX Bool) : MX Bool := fun ρ => (a ρ).bind fun x => bif x.1 then .ret (true, x.2) else b x.2
def wNot (a : MX Bool) : MX Bool := fun ρ => (a ρ).bind fun x => .ret (!x.1, x.2)
def wOfB (a : MX Bool) : MX Dt := fun ρ => (a ρ).bind fun x => .ret (.bool x.1, x.2)
def waNil : MX (List Dt) := fun ρ => .ret ([], ρ)
def waCons (a : MX Dt) (r : MX (List Dt)) : MX (List Dt) := fun ρ => (a ρ).bind fun x => (r x.2).bind fun y => .ret (x.1 :: y.1, y.2)
def wTup (a : MX (List Dt)) : MX Dt := fun ρ => (a ρ).bind fun x => if x.1.length ≤ 100000 then .ret (.tuple x.1, x.2) else .no
def wLst (a : MX (List Dt)) : MX Dt := fun ρ => (a ρ).bind fun x => if x.1.length ≤ 100000 then .ret (.list x.1, x.2) else .no
def wCB (h : List Dt → O Dt) (a : MX (List Dt)) : MX Dt := fun ρ => (a ρ).bind fun x => wO ((h x.1).bind gFz) x.2
def wCall (m : MF) (a : MX (List Dt)) : MX Dt := fun ρ => (a ρ).bind fun x => wO (((m x.1).bind asDt).bind gFz) x.2
def drC {β : Type} : Cell → T β → T β
  | .dr _ _, f => f
  | _, _ => .no
@[simp] theorem drC_dr {β : Type} {p q : Addr} {f : T β} : drC (.dr p q) f = f := rfl
def isR (n : Int) (d : Dt) : Prop := ∃ r, d = .int r ∧ 0 ≤ r ∧ r < n
def drawK (ρ : MEnv) : Dt → T (Dt × MEnv)
  | .int n => if 0 < n ∧ n ≤ 1000001 then .any (isR n) fun d => .ret (d, ρ) else .no
  | _ => .no
def wDraw (i : Nat) (a : MX Dt) : MX Dt := fun ρ => drC (at_ ρ i) ((a ρ).bind fun x => drC (at_ x.2 i) (drawK x.2 x.1))
def pickK (ρ : MEnv) : Dt → T (Dt × MEnv)
  | .list ds => if ds ≠ [] ∧ ds.length ≤ 1000 then .any (fun d => d ∈ ds) fun d => wO (gFz d) ρ else .no
  | _ => .no
def wPick (i : Nat) (a : MX Dt) : MX Dt := fun ρ => drC (at_ ρ i) ((a ρ).bind fun x => drC (at_ x.2 i) (pickK x.2 x.1))
def isG (d : Dt) : Prop := ∃ N w s, d = gear N w s ∧ Gok N w s
def wGear (i : Nat) : MX Dt := fun ρ => drC (at_ ρ i) (.any isG fun d => .ret (d, ρ))
section
variable {K : Fg} {E : XS} {ta tb tc te : TE} {t u : TT} {a b c e : MX Dt} {x y : MX Bool} {m : MP} {i : Nat}
theorem w_all {α β : Type} {t : T α} {f : α → T β} {Q : β → Prop} {X : Str → MEnv → Prop} (h : (t.bind f).all Q X) : t.all (fun a => (f a).all Q X) X := (T.all_bind t).mp h
theorem FzOk.keep {o o' : Addr → Option Nat} {H H' : Hp} {v : V} {d : Dt} (e : Ex (hid o H) (hid o' H')) (h : FzOk K o H v d) : FzOk K o' H' v d := by
  cases d with
  | list ds =>
    obtain ⟨p, xs, rfl, h1, h2⟩ := h
    exact ⟨p, xs, rfl, e _ _ h1, dps_ex e h2⟩
  | none => exact dp_ex e h
  | bool b => exact dp_ex e h
  | int b => exact dp_ex e h
  | str b => exact dp_ex e h
  | tuple b => exact dp_ex e h
  | dict b => exact dp_ex e h
theorem yw_p (h : YF K E te m) : YW K E te (wP m) := fun B M o σ ρ H R Q k => h B M o σ ρ H R H ex_rfl Q (O.go_mono (ofO_all.mp k) (fun d kd v H2 e2 p2 => kd o v H2 (R.ex e2) p2) fun x z H2 e2 => z o H2 (R.ex e2))
theorem ywb_p {m : MB} (h : YB K E t m) : YWB K E t (wPB m) := fun B M o σ ρ H R Q k => h B M o σ ρ H R H ex_rfl Q (O.go_mono (ofO_all.mp k) (fun d kd H2 e2 => kd o H2 (R.ex e2)) fun x z H2 e2 => z o H2 (R.ex e2))
theorem yw_op {r : R2} {h : Dt → Dt → O Dt} (ha : YW K E ta a) (hb : YW K E tb b) (hr : Hr K r h) : YW K E (tOp r ta tb) (wOp h a b) := fun B M o σ ρ H R Q k =>
  ha B _ o σ ρ H R.strong _ (T.all_mono (fun x kx o1 v H1 R1 p1 => hb B _ o1 σ x.2 H1 R1.strong _ (T.all_mono (fun y ky o2 u H2 R2 p2 => by
    have ky' := ofO_all.mp ky
    obtain ⟨h1, h2⟩ := hr x.1 y.1
    cases q : h x.1 y.1 with
    | ok z =>
      rw [q] at ky'
      obtain ⟨n, kz⟩ := gFz_spec ky'
      refine h2 z q v u H2 Q (dp_ex hid_le (p1.keep R2.keep).dp) (dp_ex hid_le p2.dp) fun v' H4 e4 p4 => ?_
      have R4 := ((R2.weak R1.keep).weak R.keep).ex e4
      exact kz o2 v' H4 R4 (fz_nolst R4 n p4)
    | ex z => exact absurd q (h1 z)
    | no => rw [q] at ky'; exact ky'.elim) (fun _ _ z o' H' R' => z o' H' ((R'.weak R1.keep).weak R.keep)) (w_all kx))) (fun _ _ z o' H' R' => z o' H' (R'.weak R.keep)) (w_all k))
theorem yw_un {r : V → Hp → VK → Prop} {h : Dt → O Dt} (ha : YW K E ta a) (hr : Hu K r h) : YW K E (tUn r ta) (wUn h a) := fun B M o σ ρ H R Q k =>
  ha B M o σ ρ H R _ (T.all_mono (fun x kx o1 v H1 R1 p1 => by
    have kx' := ofO_all.mp kx
    obtain ⟨h1, h2⟩ := hr x.1
    cases q : h x.1 with
    | ok z =>
      rw [q] at kx'
      obtain ⟨n, kz⟩ := gFz_spec kx'
      refine h2 z q v H1 Q (dp_ex hid_le p1.dp) fun v' H4 e4 p4 => ?_
      exact kz o1 v' H4 (R1.ex e4) (fz_nolst (R1.ex e4) n p4)
    | ex z => exact absurd q (h1 z)
    | no => rw [q] at kx'; exact kx'.elim) (fun _ _ z => z) (w_all k))
theorem yw_if (ht : YWB K E t x) (ha : YW K E ta a) (hb : YW K E tb b) : YW K E (tIf t ta tb) (wIf x a b) := fun B M o σ ρ H R Q k =>
  ht B M o σ ρ H R _ (T.all_mono (fun z kz o1 H1 R1 => by
    obtain ⟨c, ρ1⟩ := z
    cases c with
    | true => exact ha B M o1 σ ρ1 H1 R1 Q kz
    | false => exact hb B M o1 σ ρ1 H1 R1 Q kz) (fun _ _ z => z) (w_all k))
theorem ywb_test (h : YW K E te a) : YWB K E (tTest te) (wTest a) := fun B M o σ ρ H R Q k => h B M o σ ρ H R _ (T.all_mono (fun z kz o1 v H1 R1 p1 => by
  obtain ⟨d, ρ1⟩ := z
  cases d with
  | bool b => exact ⟨b, dp_bl p1, kz o1 H1 R1⟩
  | _ => exact kz.elim) (fun _ _ z => z) (w_all k))
theorem ywb_B (h : YW K E te a) : YWB K E (tB te) (wTest a) := fun B M o σ ρ H R Q k => h B M o σ ρ H R _ (T.all_mono (fun z kz o1 v H1 R1 p1 => by
  obtain ⟨d, ρ1⟩ := z
  cases d with
  | bool b => exact ⟨b, dp_bl p1, kz o1 H1 R1⟩
  | _ => exact kz.elim) (fun _ _ z => z) (w_all k))
theorem ywb_and (h1 : YWB K E t x) (h2 : YWB K E u y) : YWB K E (tAnd t u) (wAnd x y) := fun B M o σ ρ H R Q k => h1 B M o σ ρ H R _ (T.all_mono (fun z kz o1 H1 R1 => by
  obtain ⟨c, ρ1⟩ := z
  cases c with
  | true => exact h2 B M o1 σ ρ1 H1 R1 Q kz
  | false => exact kz o1 H1 R1) (fun _ _ z => z) (w_all k))
theorem ywb_or (h1 : YWB K E t x) (h2 : YWB K E u y) : YWB K E (tOr t u) (wOr x y) := fun B M o σ ρ H R Q k => h1 B M o σ ρ H R _ (T.all_mono (fun z kz o1 H1 R1 => by
  obtain ⟨c, ρ1⟩ := z
  cases c with
  | false => exact h2 B M o1 σ ρ1 H1 R1 Q kz
  | true => exact kz o1 H1 R1) (fun _ _ z => z) (w_all k))
theorem ywb_not (h1 : YWB K E t x) : YWB K E (tNot t) (wNot x) := fun B M o σ ρ H R Q k => h1 B M o σ ρ H R _ (T.all_mono (fun z kz o1 H1 R1 => kz o1 H1 R1) (fun _ _ z => z) (w_all k))
theorem yw_andV (h1 : YW K E ta a) (h2 : YW K E tb b) : YW K E (tAndV ta tb) (wOfB (wAnd (wTest a) (wTest b))) := fun B M o σ ρ H R Q k => h1 B M o σ ρ H R _ (T.all_mono (fun z kz o1 v H1 R1 p1 => by
  obtain ⟨d, ρ1⟩ := z
  cases d with
  | bool b =>
    refine ⟨b, dp_bl p1, ?_⟩
    cases b with
    | true => exact h2 B M o1 σ ρ1 H1 R1 Q (T.all_mono (fun z kz o2 v H2 R2 p2 => by
        obtain ⟨d, ρ2⟩ := z
        cases d with
        | bool b => exact kz o2 v H2 R2 p2
        | _ => exact kz.elim) (fun _ _ z => z) (w_all kz))
    | false => exact kz o1 _ H1 R1 (.bl false)
  | _ => exact kz.elim) (fun _ _ z => z) (w_all (w_all (w_all k))))
theorem yw_orV (h1 : YW K E ta a) (h2 : YW K E tb b) : YW K E (tOrV ta tb) (wOfB (wOr (wTest a) (wTest b))) := fun B M o σ ρ H R Q k => h1 B M o σ ρ H R _ (T.all_mono (fun z kz o1 v H1 R1 p1 => by
  obtain ⟨d, ρ1⟩ := z
  cases d with
  | bool b =>
    refine ⟨b, dp_bl p1, ?_⟩
    cases b with
    | false => exact h2 B M o1 σ ρ1 H1 R1 Q (T.all_mono (fun z kz o2 v H2 R2 p2 => by
        obtain ⟨d, ρ2⟩ := z
        cases d with
        | bool b => exact kz o2 v H2 R2 p2
        | _ => exact kz.elim) (fun _ _ z => z) (w_all kz))
    | true => exact kz o1 _ H1 R1 (.bl true)
  | _ => exact kz.elim) (fun _ _ z => z) (w_all (w_all (w_all k))))
theorem yw_notV (h1 : YW K E ta a) : YW K E (tNotV ta) (wOfB (wNot (wTest a))) := fun B M o σ ρ H R Q k => h1 B M o σ ρ H R _ (T.all_mono (fun z kz o1 v H1 R1 p1 => by
  obtain ⟨d, ρ1⟩ := z
  cases d with
  | bool b => exact ⟨b, dp_bl p1, kz o1 _ H1 R1 (.bl _)⟩
  | _ => exact kz.elim) (fun _ _ z => z) (w_all (w_all (w_all k))))
theorem ywa_nil : YWA K E tNil waNil := fun B M o σ ρ H R Q k => k o [] H R .nil
theorem ywa_cons {tr : TA} {r : MX (List Dt)} (ha : YW K E ta a) (hr : YWA K E tr r) : YWA K E (tCons ta tr) (waCons a r) := fun B M o σ ρ H R Q k =>
  ha B _ o σ ρ H R.strong _ (T.all_mono (fun x kx o1 v H1 R1 p1 => hr B _ o1 σ x.2 H1 R1.strong _ (T.all_mono (fun y ky o2 vs H2 R2 p2 => by exact ky o2 (v :: vs) H2 ((R2.weak R1.keep).weak R.keep) (.cons (p1.keep R2.keep).dp p2)) (fun _ _ z o' H' R' => z o' H' ((R'.weak R1.keep).weak R.keep)) (w_all kx))) (fun _ _ z o' H' R' => z o' H' (R'.weak R.keep)) (w_all k))
theorem yw_tup {tr : TA} {r : MX (List Dt)} (h : YWA K E tr r) : YW K E (tTup tr) (wTup r) := fun B M o σ ρ H R Q k => h B M o σ ρ H R _ (T.all_mono (fun x kx o1 vs H1 R1 p1 => by
  split at kx
  · rename_i hl
    refine ⟨Evl.sz_of (by rw [dps_len p1]; exact hl), fun p hp => kx o1 _ _ (R1.ex (Evl.Ex.new hp)) (Dp.tup (.inl (.inl (hid_new (R1.fresh hp)))) (dps_ex (hid_ex (Evl.Ex.new hp)) p1))⟩
  · exact kx.elim) (fun _ _ z => z) (w_all k))
theorem yw_lst {tr : TA} {r : MX (List Dt)} (h : YWA K E tr r) : YW K E (tLst tr) (wLst r) := fun B M o σ ρ H R Q k => h B M o σ ρ H R _ (T.all_mono (fun x kx o1 vs H1 R1 p1 => by
  split at kx
  · rename_i hl
    refine ⟨Evl.sz_of (by rw [dps_len p1]; exact hl), fun p hp => kx o1 _ _ (R1.ex (Evl.Ex.new hp)) ⟨p, vs, rfl, hid_new (R1.fresh hp), dps_ex (hid_ex (Evl.Ex.new hp)) p1⟩⟩
  · exact kx.elim) (fun _ _ z => z) (w_all k))
theorem yw_cb {r : List V → Hp → VK → Prop} {h : List Dt → O Dt} {tr : TA} {ma : MX (List Dt)} (ha : YWA K E tr ma) (hr : Hc K r h) : YW K E (tCB r tr) (wCB h ma) := fun B M o σ ρ H R Q k => ha B M o σ ρ H R _ (T.all_mono (fun x kx o1 vs H1 R1 p1 => by
  have kx' := ofO_all.mp kx
  obtain ⟨h1, h2⟩ := hr x.1
  cases q : h x.1 with
  | ok z =>
    rw [q] at kx'
    obtain ⟨n, kz⟩ := gFz_spec kx'
    exact h2 z q vs H1 Q (dps_ex hid_le p1) fun v' H4 e4 p4 => kz o1 v' H4 (R1.ex e4) (fz_nolst (R1.ex e4) n p4)
  | ex z => exact absurd q (h1 z)
  | no => rw [q] at kx'; exact kx'.elim) (fun _ _ z => z) (w_all k))
theorem yw_call {m : MF} {tr : TA} {ma : MX (List Dt)} {E0 : XK} (ha : YWA K (fun _ => E0) tr ma) : YW K (fun _ => E0) (tCall (spF K (FM m)) [] E0 tr) (wCall m ma) := fun B M o σ ρ H R Q k => ha B M o σ ρ H R _ (T.all_mono (fun x kx o1 vs H1 R1 p1 => by
  have kx' := ofO_all.mp kx
  rw [List.append_nil]
  cases q : m x.1 with
  | ok r =>
    rw [q] at kx'
    cases r with
    | val d =>
      obtain ⟨n, kz⟩ := gFz_spec kx'
      exact ⟨x.1, .val d, dps_ex hid_le p1, by unfold FM; rw [q], fun v H3 e3 p3 => kz o1 v H3 (R1.ex e3) (fz_nolst (R1.ex e3) n p3)⟩
    | new es =>
      obtain ⟨n, kz⟩ := gFz_spec kx'
      simp [noLst] at n
    | ob _ _ _ _ => exact kx'.elim
  | ex e =>
    rw [q] at kx'
    exact ⟨x.1, .exc e, dps_ex hid_le p1, by unfold FM; rw [q], fun H3 e3 => kx' o1 H3 (R1.ex e3)⟩
  | no => rw [q] at kx'; exact kx'.elim) (fun _ _ z => z) (w_all k))
/-- the draws -/
theorem dr_at {B M : Hp} {o : Addr → Option Nat} {σ : L2.St} {ρ : MEnv} {H : Hp} {β : Type} {f : T β} {Q : β → Prop} {X : Str → MEnv → Prop} (R : Rl K B M o σ ρ H) (k : (drC (at_ ρ i) f).all Q X) :
    ∃ p q, f.all Q X ∧ at_ ρ i = .dr p q ∧ σ[i]? = some (some (.ref p)) ∧ o p = some i ∧ o q = some i ∧ Dr H p q := by
  have h := R.cell i
  generalize at_ ρ i = c at h k
  cases c with
  | dr p q =>
    obtain ⟨h1, h2, h3, h4⟩ := h
    exact ⟨p, q, k, rfl, h1, h2, h3, h4⟩
  | _ => exact k.elim
theorem dr_step {B M : Hp} {o : Addr → Option Nat} {σ : L2.St} {ρ : MEnv} {H H2 : Hp} {p q : Addr} (R : Rl K B M o σ ρ H) (h0 : at_ ρ i = .dr p q) (h1 : σ[i]? = some (some (.ref p))) (h2 : o p = some i) (h3 : o q = some i) (e : Exd p q H H2) (d : Dr H2 p q) :
    Rl K B M o σ ρ H2 ∧ Ex (hid o H) (hid o H2) := by
  have eh : Ex (hid o H) (hid o H2) := fun a u ha => by
    obtain ⟨z1, z2⟩ := hid_of ha
    rw [hid_at z1]
    exact e a u (fun z => by rw [z, h2] at z1; cases z1) (fun z => by rw [z, h3] at z1; cases z1) z2
  have oth : ∀ {a : Addr} {j : Nat} {u : HO}, o a = some j → j ≠ i → H a = some u → H2 a = some u := fun ha hj hu => e _ _ (fun z => by rw [z, h2] at ha; exact hj (Option.some.inj ha).symm) (fun z => by rw [z, h3] at ha; exact hj (Option.some.inj ha).symm) hu
  refine ⟨⟨R.len, fun j => ?_, fun a u h => eh a u (R.keep a u h), fun a h => R.base a ?_, fun a j h => ?_⟩, eh⟩
  · have hc := R.cell j
    by_cases hj : j = i
    · subst hj
      rw [h0]
      exact ⟨h1, h2, h3, d⟩
    · generalize at_ ρ j = c at hc ⊢
      cases c with
      | no => trivial
      | val d =>
        obtain ⟨v, z1, z2⟩ := hc
        exact ⟨v, z1, dp_ex eh z2⟩
      | tl ds =>
        obtain ⟨p', xs, z1, z2, z3⟩ := hc
        exact ⟨p', xs, z1, eh _ _ z2, dps_ex eh z3⟩
      | own ds =>
        obtain ⟨p', xs, z1, z2, z3, z4, z5, z6⟩ := hc
        exact ⟨p', xs, z1, z2, z3, oth z2 hj z4, z5, dps_ex eh z6⟩
      | dr p' q' =>
        obtain ⟨z1, z2, z3, y0, c0, ns, y1, y2, y3⟩ := hc
        exact ⟨z1, z2, z3, y0, c0, ns, oth z2 hj y1, oth z3 hj y2, y3⟩
      | ob a' g st sp ps =>
        obtain ⟨z0, dx, a1, a2, gv, z1, z2, z3, z4, z5, z6, z6', z7, z8, z9, z10⟩ := hc
        exact ⟨z0, dx, a1, a2, gv, oth z7 hj z1, oth z8 hj z2, oth z9 hj z3, oth z10 hj z4, z5, dp_ex eh z6, z6', z7, z8, z9, z10⟩
      | er x =>
        obtain ⟨a, z1, z2⟩ := hc
        exact ⟨a, z1, eh _ _ z2⟩
      | ll dss =>
        obtain ⟨p', rs, z1, z2, z3, z4, z5, z6, z7, z8⟩ := hc
        refine ⟨p', rs, z1, z2, z3, oth z2 hj z4, z5, z6, z7, fun k r ds hr hd => ?_⟩
        obtain ⟨y1, y2, xs, y3, y4, y5⟩ := z8 k r ds hr hd
        exact ⟨y1, y2, xs, oth y1 hj y3, y4, dps_ex eh y5⟩
  · cases q0 : H a with
    | none => rfl
    | some u =>
      by_cases ea : a = p
      · obtain ⟨_, c, ns, y1, _⟩ := d
        rw [ea, y1] at h
        cases h
      · by_cases eb : a = q
        · obtain ⟨_, c, ns, _, y2, _⟩ := d
          rw [eb, y2] at h
          cases h
        · rw [e a u ea eb q0] at h
          cases h
  · by_cases hj : j = i
    · by_cases ea : a = p
      · obtain ⟨_, c, ns, y1, _⟩ := d
        rw [ea]
        exact ⟨_, y1, by simp, by simp⟩
      · by_cases eb : a = q
        · obtain ⟨_, c, ns, _, y2, _⟩ := d
          rw [eb]
          exact ⟨_, y2, by simp, by simp⟩
        · obtain ⟨u, w1, w2⟩ := R.live a j h
          exact ⟨u, e a u ea eb w1, w2⟩
    · obtain ⟨u, w1, w2⟩ := R.live a j h
      exact ⟨u, oth h hj w1, w2⟩
theorem yw_draw {E0 : XK} (ha : YW K (fun _ => E0) ta a) : YW K (fun _ => E0) (tCall spDraw [] E0 (tCons (tVar i) (tCons ta tNil))) (wDraw i a) := fun B M o σ ρ H R Q k => by
  obtain ⟨p0, q0, k, _, hv, _⟩ := dr_at R k
  refine ⟨_, hv, ha B M o σ ρ H R _ (T.all_mono (fun x kx o1 u H1 R1 p1 => ?_) (fun _ _ z => z) (w_all k))⟩
  obtain ⟨p, q, k1, h0, h1, h2, h3, h4⟩ := dr_at R1 kx
  rw [hv] at h1
  cases h1
  obtain ⟨d, ρ1⟩ := x
  cases d with
  | int n =>
    have k2 : (if 0 < n ∧ n ≤ 1000001 then T.any (isR n) (fun d => T.ret (d, ρ1)) else .no).all _ _ := k1
    split at k2
    · rename_i hn
      obtain rfl := dp_int p1
      exact ⟨_, q, n, rfl, hn.1, hn.2, h4, fun r H3 r0 r1 e3 d3 => by
        obtain ⟨R3, _⟩ := dr_step R1 h0 hv h2 h3 e3 d3
        exact k2 (.int r) ⟨r, rfl, r0, r1⟩ o1 _ H3 R3 (.int _)⟩
    · exact k2.elim
  | _ => exact k1.elim
theorem msk_hid {B M : Hp} {o : Addr → Option Nat} {σ : L2.St} {ρ : MEnv} {H : Hp} {p q : Addr} {a : Addr} {u : HO} (h2 : o p = some i) (h3 : o q = some i) (h : hid o H a = some u) : msk p q H a = some u := by
  obtain ⟨z1, z2⟩ := hid_of h
  rw [msk_at (fun z => by rw [z, h2] at z1; cases z1) (fun z => by rw [z, h3] at z1; cases z1)]
  exact z2
theorem yw_pick {E0 : XK} (ha : YW K (fun _ => E0) ta a) : YW K (fun _ => E0) (tCall (spPick K) [] E0 (tCons (tVar i) (tCons ta tNil))) (wPick i a) := fun B M o σ ρ H R Q k => by
  obtain ⟨p0, q0, k, _, hv, _⟩ := dr_at R k
  refine ⟨_, hv, ha B M o σ ρ H R _ (T.all_mono (fun x kx o1 u H1 R1 p1 => ?_) (fun _ _ z => z) (w_all k))⟩
  obtain ⟨p, q, k1, h0, h1, h2, h3, h4⟩ := dr_at R1 kx
  rw [hv] at h1
  cases h1
  obtain ⟨d, ρ1⟩ := x
  cases d with
  | list ds =>
    have k2 : (if ds ≠ [] ∧ ds.length ≤ 1000 then T.any (fun d => d ∈ ds) (fun d => wO (gFz d) ρ1) else .no).all _ _ := k1
    split at k2
    · rename_i hn
      obtain ⟨l, xs, rfl, l1, l2⟩ := p1
      refine ⟨_, q, l, xs, rfl, h4, SqL.of (msk_hid (B := B) (M := M) (σ := σ) (ρ := ρ) h2 h3 l1), fun z => ?_, by rw [dps_len l2]; exact hn.2, fun y H3 hy e3 d3 => ?_⟩
      · rw [z] at l2
        exact hn.1 (List.length_eq_zero_iff.mp (dps_len l2).symm)
      · obtain ⟨R3, ee⟩ := dr_step R1 h0 hv h2 h3 e3 d3
        obtain ⟨j, hj⟩ := List.mem_iff_getElem?.mp hy
        obtain ⟨d, z1, z2⟩ := dps_at l2 hj
        obtain ⟨n, k3⟩ := gFz_spec (ofO_all.mp (k2 d (List.mem_of_getElem? z1)))
        exact k3 o1 y H3 R3 (fz_nolst R3 n (dp_ex (ee.trans hid_le) z2))
    · exact k2.elim
  | _ => exact k1.elim
theorem yw_gear {E0 : XK} : YW K (fun _ => E0) (tCall (spGear K) [] E0 (tCons (tVar i) tNil)) (wGear i) := fun B M o σ ρ H R Q k => by
  obtain ⟨p, q, k, h0, h1, h2, h3, h4⟩ := dr_at R k
  exact ⟨_, h1, p, q, rfl, h4, fun v N w s H2 g e d hd => by
    obtain ⟨R2, _⟩ := dr_step R h0 h1 h2 h3 e d
    exact k (gear N w s) ⟨N, w, s, rfl, g⟩ o v H2 R2 (fz_nolst R2 (by simp [noLst, noLsts]) (dp_ex msk_ex hd))⟩
end
/-! ### statements that draw -/
def wsSet (i : Nat) (a : MX Dt) : MS := fun ρ => (a ρ).bind fun x => .ret (.nx (x.2.set i (cellOf x.1)))
def wsPar (i j : Nat) (a b : MX Dt) : MS := fun ρ => (a ρ).bind fun x => (b x.2).bind fun y => .ret (.nx ((y.2.set i (cellOf x.1)).set j (cellOf y.1)))
def wsAsg (g : Tg) (a : MX Dt) : MS := fun ρ => (a ρ).bind fun x => ofO (g.put x.1 x.2) x.2 fun ρ' => .ret (.nx ρ')
def wsDrop (a : MX Dt) : MS := fun ρ => (a ρ).bind fun x => .ret (.nx x.2)
def wsRet (a : MX Dt) : MS := fun ρ => (a ρ).bind fun x => .ret (.rt (.val x.1) x.2)
def wsIf (t : MX Bool) (a b : MS) : MS := fun ρ => (t ρ).bind fun c => bif c.1 then a c.2 else b c.2
def sAsg (g : Tg) (a : MP) : MS := fun ρ => ofO (a ρ) ρ fun d => ofO (g.put d ρ) ρ fun ρ' => .ret (.nx ρ')
def stC {β : Type} : Cell → T β → T β
  | .val (.list ds), f => match intsOf ds with
    | some ns => if ns.length ≤ 63 then f else .no
    | none => .no
  | _, _ => .no
@[simp] theorem stC_ok {β : Type} {ns : List Int} {f : T β} (h : ns.length ≤ 63) : stC (.val (.list (ns.map .int))) f = f := by
  show (match intsOf (ns.map .int) with
    | some ns => if ns.length ≤ 63 then f else .no
    | none => .no) = f
  rw [intsOf_map]
  exact if_pos h
def sStart (i j : Nat) : MS := fun ρ => stC (at_ ρ i) (.fresh fun p q => .ret (.nx (ρ.set j (.dr p q))))
section
variable {K : Fg} {E : XS} {ta tb tc te : TE} {t u : TT} {a b c e : MX Dt} {x y : MX Bool} {m : MP} {i j : Nat} {ts tu : TS} {s s' : MS}
theorem yws_set (h : YW K E te a) : YS K E (tAsg te (gName i)) (wsSet i a) := fun B M o σ ρ H D R k => h B M o σ ρ H R _ (T.all_mono (fun x kx o1 v H1 R1 p1 => kx o1 _ H1 (R1.set_fz p1)) (fun _ _ z o' H' R' => z o' σ H' R') (w_all k))
theorem yws_par (ha : YW K E ta a) (hb : YW K E tb b) : YS K E (tPar i j (tCons ta (tCons tb tNil))) (wsPar i j a b) := fun B M o σ ρ H D R k => ha B _ o σ ρ H R.strong _ (T.all_mono (fun x kx o1 v H1 R1 p1 => hb B _ o1 σ x.2 H1 R1.strong _ (T.all_mono (fun y ky o2 u H2 R2 p2 => by
  have R3 := (R2.weak R1.keep).weak R.keep
  exact ⟨v, u, rfl, ky o2 _ H2 ((R3.set_fz (p1.keep R2.keep)).set_fz p2)⟩) (fun _ _ z o' H' R' => z o' σ H' ((R'.weak R1.keep).weak R.keep)) (w_all kx))) (fun _ _ z o' H' R' => z o' σ H' (R'.weak R.keep)) (w_all k))
theorem tg_noex {g : Tg} {d : Dt} {ρ : MEnv} {e : Str} : g.put d ρ ≠ .ex e := by
  unfold Tg.put
  split <;> nofun
theorem yws_asg {g : TG} {tg : Tg} (h : YW K E te a) (hg : YTg K g tg) : YS K E (tAsg te g) (wsAsg tg a) := fun B M o σ ρ H D R k => h B M o σ ρ H R _ (T.all_mono (fun x kx o1 v H1 R1 p1 => hg B M o1 σ x.2 H1 v x.1 R1 p1.dp _ (by
  have k2 := ofO_all.mp kx
  have := fun e => tg_noex (g := tg) (d := x.1) (ρ := x.2) (e := e)
  generalize tg.put x.1 x.2 = r at k2 this
  cases r with
  | ok ρ' => exact fun σ' R' _ => k2 o1 σ' H1 R'
  | ex e => exact absurd rfl (this e)
  | no => exact k2)) (fun _ _ z o' H' R' => z o' σ H' R') (w_all k))
theorem ys_asg {g : TG} {tg : Tg} (h : YF K E te m) (hg : YTg K g tg) : YS K E (tAsg te g) (sAsg tg m) := fun B M o σ ρ H D R k => h B M o σ ρ H R H ex_rfl _ (O.go_mono (ofO_all.mp k) (fun d kd v H1 e1 p1 => hg B M o σ ρ H1 v d (R.ex e1) p1.dp _ (by
  have k2 := ofO_all.mp kd
  have := fun e => tg_noex (g := tg) (d := d) (ρ := ρ) (e := e)
  generalize tg.put d ρ = r at k2 this
  cases r with
  | ok ρ' => exact fun σ' R' _ => k2 o σ' H1 R'
  | ex e => exact absurd rfl (this e)
  | no => exact k2)) (fun x z H2 e2 => z o σ H2 (R.ex e2)))
theorem yws_drop (h : YW K E te a) : YS K E (tDrop te) (wsDrop a) := fun B M o σ ρ H D R k => h B M o σ ρ H R _ (T.all_mono (fun x kx o1 v H1 R1 p1 => kx o1 σ H1 R1) (fun _ _ z o' H' R' => z o' σ H' R') (w_all k))
theorem yws_ret (h : YW K E te a) : YS K E (tRet te) (wsRet a) := fun B M o σ ρ H D R k => h B M o σ ρ H R _ (T.all_mono (fun x kx o1 v H1 R1 p1 => kx o1 σ H1 v R1 (dp_ex hid_le p1.dp)) (fun _ _ z o' H' R' => z o' σ H' R') (w_all k))
theorem yws_if (h : YWB K E t x) (h1 : YS K E ts s) (h2 : YS K E tu s') : YS K E (tIfS t ts tu) (wsIf x s s') := fun B M o σ ρ H D R k => h B M o σ ρ H R _ (T.all_mono (fun z kz o1 H1 R1 => by
  obtain ⟨c, ρ1⟩ := z
  cases c with
  | true => exact h1 B M o1 σ ρ1 H1 D R1 kz
  | false => exact h2 B M o1 σ ρ1 H1 D R1 kz) (fun _ _ z o' H' R' => z o' σ H' R') (w_all k))
/-- _law_start: the draws in slot j -/
theorem ys_start {E0 : XK} : YS K (fun _ => E0) (tAsg (tCall (spStart K) [] E0 (tCons (tVar i) tNil)) (gName j)) (sStart i j) := fun B M o σ ρ H D R k => by
  have h := R.cell i
  unfold sStart at k
  generalize at_ ρ i = c at h k
  unfold stC at k
  split at k
  · split at k
    · split at k
      · rename_i ds ns c hl
        obtain rfl := intsOf_eq c
        obtain ⟨v, h1, h2⟩ := h
        obtain ⟨a, xs, rfl, h3, h4⟩ := dp_lst h2
        obtain rfl := of_dps_ints h4
        refine ⟨_, h1, a, ns, rfl, Evl.ex_l hid_le h3, hl, fun p q H1 hp hq e d => ?_⟩
        obtain ⟨npq, c0, ms, d1, d2, d3⟩ := id d
        have e1 : Ex H (fun b => if b = q then none else H1 b) := fun b u hb => by
          have : b ≠ q := fun z => by rw [z, hq] at hb; cases hb
          show (if b = q then none else H1 b) = _
          rw [if_neg this]
          exact e b u hb
        have e2 : Ex (fun b => if b = q then none else H1 b) H1 := fun b u hb => by
          have hb' : (if b = q then none else H1 b) = some u := hb
          split at hb'
          · cases hb'
          · exact hb'
        have R1 : Rl K B M (own1 o p j) σ ρ (fun b => if b = q then none else H1 b) := R.own hp e1 (u := .lst [.ref q, .int c0]) (by show (if p = q then none else H1 p) = _; rw [if_neg npq]; exact d1) (by simp) (by simp)
        have R2 : Rl K B M (own1 (own1 o p j) q j) σ ρ H1 := R1.own (by show (if q = q then none else H1 q) = _; rw [if_pos rfl]) e2 d2 (by simp) (by simp)
        refine k p q _ _ H1 (R2.set (s := some (.ref p)) (c := .dr p q) ⟨rfl, ?_, own1_at, d⟩)
        rw [own1_ne npq]
        exact own1_at
      · exact k.elim
    · exact k.elim
  · exact k.elim
end
end Wc

/-! .. calls within comprehensions, the law's own def. -/
namespace Wc
open PySem PySem.Spec PyProof.Rows L2
def pCallL (m : MF) (a : MA) : MP := fun ρ => (a ρ).bind fun ds => (m ds).nx.bind asDt
def pCallLN (m : MF) (a : MA) : MP := fun ρ => (a ρ).bind fun ds => (m ds).nx.bind asNew
section
variable {K : Fg} {E : XS} {tr : TA} {ma : MA} {m : MF}
theorem yt_callL {E0 : XK} (ha : YA K E tr ma) : YT K E (tCall (spF K (FM m)) [] E0 tr) (pCallL m ma) := fun B M o σ ρ H R H1 e1 Q k =>
  ha B M o σ ρ H R H1 e1 _ (O.go_mono (O.go_bind.mp k) (fun ds kx vs H2 e2 p2 => by
    rw [List.append_nil]
    cases q : m ds with
    | ok r =>
      rw [q] at kx
      cases r with
      | val d => exact ⟨ds, .val d, p2, by unfold FM; rw [q], fun v H3 e3 p3 => kx v H3 (e2.trans e3) p3⟩
      | new es => exact ⟨ds, .new es, p2, by unfold FM; rw [q], fun p xs H3 hp e3 h3 p3 => kx _ H3 (e2.trans e3) (Dp.lst (SqL.of h3) p3)⟩
      | ob _ _ _ _ => exact kx.elim
    | ex x => rw [q] at kx; exact kx.elim
    | no => rw [q] at kx; exact kx.elim) fun _ z => z)
theorem yn_callL {E0 : XK} (ha : YA K E tr ma) : YN K E (tCall (spF K (FM m)) [] E0 tr) (pCallLN m ma) := fun B M o σ ρ H R H1 e1 Q k =>
  ha B M o σ ρ H R H1 e1 _ (O.go_mono (O.go_bind.mp k) (fun ds kx vs H2 e2 p2 => by
    rw [List.append_nil]
    cases q : m ds with
    | ok r =>
      rw [q] at kx
      cases r with
      | val d => exact kx.elim
      | new es => exact ⟨ds, .new es, p2, by unfold FM; rw [q], fun p xs H3 hp e3 h3 p3 => kx _ H3 (e2.trans e3) ⟨p, xs, es, rfl, rfl, Evl.fresh_back e2 hp, h3, p3⟩⟩
      | ob _ _ _ _ => exact kx.elim
    | ex x => rw [q] at kx; exact kx.elim
    | no => rw [q] at kx; exact kx.elim) fun _ z => z)
def spLaw (K : Fg) : Sp := fun vs H Q _ => ∃ (a : Addr) (ns : List Int), vs = [.ref a] ∧ SqL K H a (ns.map V.int) ∧ ns.length ≤ 63 ∧ ∀ H2, Q (.bl true) H2
theorem len_law : ∀ vs H Q E, spLaw K vs H Q E → vs.length = 1 := fun _ _ _ _ ⟨_, _, e, _⟩ => e ▸ rfl
theorem law_go {E0 : XK} {t : TS} {s : MS} {n : Nat} {N : List Str} {vs : List V} {H : Hp} {Q : VK} (hY : YS K (fun _ => E0) t s) (hf : spLaw K vs H Q E0)
    (hlaw : ∀ ns : List Int, ns.length ≤ 63 → (s (.val (.list (ns.map .int)) :: List.replicate n .no)).all (fun out => ∃ ρ, out = .rt (.val (.bool true)) ρ) (fun _ _ => False)) (hn : N.length = n + 1) :
    t { nx := fun _ H' => Q .non H', rt := Q } (L2.start N vs) H := by
  obtain ⟨a, ns, rfl, hS, hl, k⟩ := hf
  have R := start_rl (N := N) (K := K) (H := H) (vs := [.ref a]) (ds := [.list (ns.map .int)]) (.cons (.lst hS (dps_ints ns)) .nil)
  rw [hn] at R
  refine hY H H _ _ _ H _ R (T.all_mono (fun out z => ?_) (fun _ _ z => z.elim) (hlaw ns hl))
  obtain ⟨ρ, rfl⟩ := z
  intro o σ H' v _ hr
  obtain rfl := dp_bl hr
  exact k H'
end
/-- _law_start, _law_draw .. keep their promises: what their statements read -/
theorem len_start' {K : Fg} : ∀ vs H Q E, spStart K vs H Q E → vs.length = 1 := fun _ _ _ _ ⟨_, _, e, _⟩ => e ▸ rfl
end Wc

/-! The mirror's rules, for simp: evs. -/
namespace Wc
open PySem
def tupK (ds : List Dt) : O Dt := if ds.length ≤ 100000 then .ok (.tuple ds) else .no
def lstK (ds : List Dt) : O Dt := if ds.length ≤ 100000 then .ok (.list ds) else .no
def asI : Dt → O (Option Int)
  | .int i => .ok (some i)
  | _ => .no
def slLK (d : Dt) (l h : Option Int) : O Dt := match d with
  | .list ds => .ok (.list (cutD ds l h))
  | _ => .no
def rng1K : Dt → O (List Dt)
  | .int m => if -10000000 ≤ m ∧ m ≤ 10000000 then .ok (rngD 0 m.toNat) else .no
  | _ => .no
def rng2K (d e : Dt) : O (List Dt) := match d, e with
  | .int l, .int m => if -10000000 ≤ l ∧ l ≤ 10000000 ∧ -10000000 ≤ m ∧ m ≤ 10000000 then .ok (rngD l (m - l).toNat) else .no
  | _, _ => .no
def zipK (d e : Dt) : O (List Dt) := match d, e with
  | .list xs, .list ys => .ok (zipD xs ys)
  | _, _ => .no
def enumK : Dt → O (List Dt)
  | .list xs => .ok (enumD 0 xs)
  | _ => .no
theorem hIx_tup {ds : List Dt} {i : Int} {d : Dt} (h : L2.atI ds i = some d) : hIx (.tuple ds) (.int i) = .ok d := by
  show (match L2.atI ds i with | some d => O.ok d | none => .no) = _
  rw [h]
theorem hIx_lst {ds : List Dt} {i : Int} {d : Dt} (h : L2.atI ds i = some d) : hIx (.list ds) (.int i) = .ok d := by
  show (match L2.atI ds i with | some d => O.ok d | none => .no) = _
  rw [h]
def asTu : Dt → O (List Dt)
  | .tuple ds => .ok ds
  | _ => .no
theorem pVar_e {i : Nat} {ρ : MEnv} : pVar i ρ = cellD (at_ ρ i) := rfl
theorem pVal_e {i : Nat} {ρ : MEnv} : pVal i ρ = cellV (at_ ρ i) := rfl
theorem pGv_e {i : Nat} {ρ : MEnv} : pGv i ρ = cellG (at_ ρ i) := rfl
theorem pLv_e {i : Nat} {ρ : MEnv} : pLv i ρ = cellL (at_ ρ i) := rfl
theorem pOp_e {h : Dt → Dt → O Dt} {a b : MP} {ρ : MEnv} : pOp h a b ρ = (a ρ).bind fun x => (b ρ).bind fun y => h x y := rfl
theorem pUn_e {h : Dt → O Dt} {a : MP} {ρ : MEnv} : pUn h a ρ = (a ρ).bind h := rfl
theorem aNil_e {ρ : MEnv} : aNil ρ = .ok [] := rfl
theorem aCons_e {a : MP} {r : MA} {ρ : MEnv} : aCons a r ρ = (a ρ).bind fun x => (r ρ).bind fun xs => .ok (x :: xs) := rfl
theorem pTup0 {a : MA} {ρ : MEnv} : pTup a ρ = (a ρ).bind fun ds => tupK ds := rfl
theorem pLst0 {a : MA} {ρ : MEnv} : pLst a ρ = (a ρ).bind fun ds => lstK ds := rfl
theorem tupK0 : tupK [] = .ok (.tuple []) := if_pos (by simp)
theorem lstK0 : lstK [] = .ok (.list []) := if_pos (by simp)
theorem tupK1 {x0 : Dt} : tupK [x0] = .ok (.tuple [x0]) := if_pos (by simp)
theorem lstK1 {x0 : Dt} : lstK [x0] = .ok (.list [x0]) := if_pos (by simp)
theorem tupK2 {x0 x1 : Dt} : tupK [x0, x1] = .ok (.tuple [x0, x1]) := if_pos (by simp)
theorem lstK2 {x0 x1 : Dt} : lstK [x0, x1] = .ok (.list [x0, x1]) := if_pos (by simp)
theorem tupK3 {x0 x1 x2 : Dt} : tupK [x0, x1, x2] = .ok (.tuple [x0, x1, x2]) := if_pos (by simp)
theorem lstK3 {x0 x1 x2 : Dt} : lstK [x0, x1, x2] = .ok (.list [x0, x1, x2]) := if_pos (by simp)
theorem tupK4 {x0 x1 x2 x3 : Dt} : tupK [x0, x1, x2, x3] = .ok (.tuple [x0, x1, x2, x3]) := if_pos (by simp)
theorem lstK4 {x0 x1 x2 x3 : Dt} : lstK [x0, x1, x2, x3] = .ok (.list [x0, x1, x2, x3]) := if_pos (by simp)
theorem tupK5 {x0 x1 x2 x3 x4 : Dt} : tupK [x0, x1, x2, x3, x4] = .ok (.tuple [x0, x1, x2, x3, x4]) := if_pos (by simp)
theorem lstK5 {x0 x1 x2 x3 x4 : Dt} : lstK [x0, x1, x2, x3, x4] = .ok (.list [x0, x1, x2, x3, x4]) := if_pos (by simp)
theorem tupK6 {x0 x1 x2 x3 x4 x5 : Dt} : tupK [x0, x1, x2, x3, x4, x5] = .ok (.tuple [x0, x1, x2, x3, x4, x5]) := if_pos (by simp)
theorem lstK6 {x0 x1 x2 x3 x4 x5 : Dt} : lstK [x0, x1, x2, x3, x4, x5] = .ok (.list [x0, x1, x2, x3, x4, x5]) := if_pos (by simp)
theorem pCB_e {h : List Dt → O Dt} {a : MA} {ρ : MEnv} : pCB h a ρ = (a ρ).bind h := rfl
theorem pBM_e {h : List Dt → List Dt → O Dt} {o : MP} {a : MA} {ρ : MEnv} : pBM h o a ρ = ((o ρ).bind asL).bind fun x => (a ρ).bind fun xs => h x xs := rfl
theorem pCall_e {m : MF} {a : MA} {ρ : MEnv} : pCall m a ρ = (a ρ).bind fun ds => (m ds).bind asDt := rfl
theorem pCallN_e {m : MF} {a : MA} {ρ : MEnv} : pCallN m a ρ = (a ρ).bind fun ds => (m ds).bind asNew := rfl
theorem pCallL_e {m : MF} {a : MA} {ρ : MEnv} : pCallL m a ρ = (a ρ).bind fun ds => (m ds).nx.bind asDt := rfl
theorem pCallLN_e {m : MF} {a : MA} {ρ : MEnv} : pCallLN m a ρ = (a ρ).bind fun ds => (m ds).nx.bind asNew := rfl
theorem pIf_e {t : MB} {a b : MP} {ρ : MEnv} : pIf t a b ρ = (t ρ).bind fun c => bif c then a ρ else b ρ := rfl
theorem bTest_e {a : MP} {ρ : MEnv} : bTest a ρ = (a ρ).bind asB := rfl
theorem bYes_e {ρ : MEnv} : bYes ρ = .ok true := rfl
theorem bAnd_e {t u : MB} {ρ : MEnv} : bAnd t u ρ = (t ρ).bind fun c => bif c then u ρ else .ok false := rfl
theorem bOr_e {t u : MB} {ρ : MEnv} : bOr t u ρ = (t ρ).bind fun c => bif c then .ok true else u ρ := rfl
theorem bNot_e {t : MB} {ρ : MEnv} : bNot t ρ = (t ρ).bind fun c => .ok (!c) := rfl
theorem pOfB_e {t : MB} {ρ : MEnv} : pOfB t ρ = (t ρ).bind fun c => .ok (.bool c) := rfl
theorem pAnd_e {a b : MP} {ρ : MEnv} : pAnd a b ρ = (bAnd (bTest a) (bTest b) ρ).bind fun c => .ok (.bool c) := rfl
theorem pOr_e {a b : MP} {ρ : MEnv} : pOr a b ρ = (bOr (bTest a) (bTest b) ρ).bind fun c => .ok (.bool c) := rfl
theorem pNot_e {a : MP} {ρ : MEnv} : pNot a ρ = (bNot (bTest a) ρ).bind fun c => .ok (.bool c) := rfl
theorem pChain_e {h h' : Dt → Dt → O Dt} {a b c : MP} {ρ : MEnv} : pChain h h' a b c ρ = (a ρ).bind fun x => (b ρ).bind fun y => (h x y).bind fun z => (asB z).bind fun k => bif k then (c ρ).bind fun w => h' y w else .ok (.bool false) := rfl
theorem pFz_e {a : MP} {ρ : MEnv} : pFz a ρ = (a ρ).bind gFz := rfl
theorem pFn_e {a : MP} {ρ : MEnv} : pFn a ρ = (a ρ).bind gFn := rfl
theorem gFz_int {i : Int} : gFz (.int i) = .ok (.int i) := by simp [gFz, noLst]
theorem gFz_bool {i : Bool} : gFz (.bool i) = .ok (.bool i) := by simp [gFz, noLst]
theorem gFz_str {i : Str} : gFz (.str i) = .ok (.str i) := by simp [gFz, noLst]
theorem gFz_none : gFz .none = .ok .none := by simp [gFz, noLst]
theorem gFz_gear {N w : Int} {s : Str} : gFz (.tuple [.int N, .int w, .str s]) = .ok (.tuple [.int N, .int w, .str s]) := by simp [gFz, noLst, noLsts]
theorem gFz_ii {N w : Int} : gFz (.tuple [.int N, .int w]) = .ok (.tuple [.int N, .int w]) := by simp [gFz, noLst, noLsts]
theorem gFn_ints {ns : List Int} : gFn (.list (ns.map .int)) = .ok (.list (ns.map .int)) := by simp [gFn, noLsts_ints]
theorem gFn_nil : gFn (.list []) = .ok (.list []) := by simp [gFn, noLsts]
theorem gOwn_nil : gOwn (.list []) = .ok [] := by simp [gOwn, noLsts]
theorem gOwn_i1 {i : Int} : gOwn (.list [.int i]) = .ok [.int i] := by simp [gOwn, noLsts, noLst]
theorem gOwn_ints {ns : List Int} : gOwn (.list (ns.map .int)) = .ok (ns.map .int) := by simp [gOwn, noLsts_ints]
theorem hAdd_i {a b : Int} : hAdd (.int a) (.int b) = .ok (.int (a + b)) := rfl
theorem hSub_i {a b : Int} : hSub (.int a) (.int b) = .ok (.int (a - b)) := rfl
theorem hMulL_i {a b : Int} (h : CMulB a) : hMul (.int a) (.int b) = .ok (.int (a * b)) := if_pos (.inl h)
theorem hMulR_i {a b : Int} (h : CMulB b) : hMul (.int a) (.int b) = .ok (.int (a * b)) := if_pos (.inr h)
theorem hMod_i {a b : Int} (h : 0 < b) : hMod (.int a) (.int b) = .ok (.int (a % b)) := if_pos h
theorem hDiv_i {a b : Int} (h : 0 < b ∧ b < 1073741824) : hDiv (.int a) (.int b) = .ok (.int (a / b)) := if_pos h
theorem hNeg_i {a : Int} : hNeg (.int a) = .ok (.int (-a)) := rfl
theorem hLt_i {a b : Int} : hLt (.int a) (.int b) = .ok (.bool (decide (a < b))) := rfl
theorem hLe_i {a b : Int} : hLe (.int a) (.int b) = .ok (.bool (decide (a ≤ b))) := rfl
theorem hGt_i {a b : Int} : hGt (.int a) (.int b) = .ok (.bool (decide (b < a))) := rfl
theorem hGe_i {a b : Int} : hGe (.int a) (.int b) = .ok (.bool (decide (b ≤ a))) := rfl
theorem hEq_i {a b : Int} : hEq (.int a) (.int b) = .ok (.bool (decide (a = b))) := by unfold hEq; rw [shp_int, shp_int, PyData.eqv, Bool.beq_eq_decide_eq] <;> rfl
theorem hNe_i {a b : Int} : hNe (.int a) (.int b) = .ok (.bool (!decide (a = b))) := by unfold hNe; rw [shp_int, shp_int, PyData.eqv, Bool.beq_eq_decide_eq] <;> rfl
theorem hEq_b {a b : Bool} : hEq (.bool a) (.bool b) = .ok (.bool (decide (a = b))) := by unfold hEq; rw [shp_bl, shp_bl, PyData.eqv, Bool.beq_eq_decide_eq] <;> rfl
theorem hNe_b {a b : Bool} : hNe (.bool a) (.bool b) = .ok (.bool (!decide (a = b))) := by unfold hNe; rw [shp_bl, shp_bl, PyData.eqv, Bool.beq_eq_decide_eq] <;> rfl
theorem hEq_L {a b : List Int} : hEq (.list (a.map .int)) (.list (b.map .int)) = .ok (.bool (decide (a = b))) := by unfold hEq; rw [shp_ints, shp_ints, PyData.eqv, eqv_ints] <;> rfl
theorem hNe_L {a b : List Int} : hNe (.list (a.map .int)) (.list (b.map .int)) = .ok (.bool (!decide (a = b))) := by unfold hNe; rw [shp_ints, shp_ints, PyData.eqv, eqv_ints] <;> rfl
theorem hEq_L0 {a : List Int} : hEq (.list (a.map .int)) (.list []) = .ok (.bool (decide (a = []))) := hEq_L (b := [])
theorem hNe_L0 {a : List Int} : hNe (.list (a.map .int)) (.list []) = .ok (.bool (!decide (a = []))) := hNe_L (b := [])
theorem hNe_LN {a : List Int} {i : Int} : hNe (.list (a.map .int)) .none = .ok (.bool true) := by unfold hNe; rw [shp_ints, shp_non, PyData.eqv] <;> rfl
theorem hNe_iN {i : Int} : hNe (.int i) .none = .ok (.bool true) := by unfold hNe; rw [shp_int, shp_non, PyData.eqv] <;> rfl
theorem hNe_NN : hNe .none .none = .ok (.bool false) := by unfold hNe; rw [shp_non, PyData.eqv] <;> rfl
theorem hNe_Ni {i : Int} : hNe .none (.int i) = .ok (.bool true) := by unfold hNe; rw [shp_int, shp_non, PyData.eqv] <;> rfl
theorem hIsN_i {i : Int} : hIsN (.int i) .none = .ok (.bool false) := rfl
theorem hIsN_n : hIsN .none .none = .ok (.bool true) := rfl
theorem hIsN_t {ds : List Dt} : hIsN (.tuple ds) .none = .ok (.bool false) := rfl
theorem hIsN_l {ds : List Dt} : hIsN (.list ds) .none = .ok (.bool false) := rfl
theorem hNotN_i {i : Int} : hNotN (.int i) .none = .ok (.bool true) := rfl
theorem hNotN_n : hNotN .none .none = .ok (.bool false) := rfl
theorem hIsB_b {a b : Bool} : hIsB (.bool a) (.bool b) = .ok (.bool (decide (a = b))) := rfl
theorem hNotB_b {a b : Bool} : hNotB (.bool a) (.bool b) = .ok (.bool (!decide (a = b))) := rfl
theorem hIn_I {i : Int} {ns : List Int} : hIn (.int i) (.list (ns.map .int)) = .ok (.bool (decide (i ∈ ns))) := by unfold hIn; dsimp only; rw [shp_int, shp_ints, any_iff (b := decide (i ∈ ns)) pls_ints (by rw [pl]) (by rw [mem_ints, decide_eq_true_eq])] <;> rfl
theorem hNi_I {i : Int} {ns : List Int} : hNi (.int i) (.list (ns.map .int)) = .ok (.bool (!decide (i ∈ ns))) := by unfold hNi; dsimp only; rw [shp_int, shp_ints, any_iff (b := decide (i ∈ ns)) pls_ints (by rw [pl]) (by rw [mem_ints, decide_eq_true_eq])] <;> rfl
theorem hIx_0 {a : Dt} {r : List Dt} : hIx (.tuple (a :: r)) (.int 0) = .ok a := hIx_tup (L2.atI_nat (j := 0) rfl)
theorem hIx_1 {a b : Dt} {r : List Dt} : hIx (.tuple (a :: b :: r)) (.int 1) = .ok b := hIx_tup (L2.atI_nat (j := 1) rfl)
theorem hIx_2 {a b c : Dt} {r : List Dt} : hIx (.tuple (a :: b :: c :: r)) (.int 2) = .ok c := hIx_tup (L2.atI_nat (j := 2) rfl)
theorem hLen_L {ds : List Dt} : hLen [.list ds] = .ok (.int ds.length) := rfl
theorem hLen_T {ds : List Dt} : hLen [.tuple ds] = .ok (.int ds.length) := rfl
theorem hMin2_i {a b : Int} : hMin2 [.int a, .int b] = .ok (.int (min a b)) := rfl
theorem hMax2_i {a b : Int} : hMax2 [.int a, .int b] = .ok (.int (max a b)) := rfl
theorem hAbs_i {a : Int} : hAbs [.int a] = .ok (.int a.natAbs) := rfl
theorem hSum_i {ns : List Int} : hSum [.list (ns.map .int)] = .ok (.int ns.sum) := by unfold hSum; dsimp only; rw [intsOf_map]
theorem hSort_i {ns : List Int} : hSort [.list (ns.map .int)] = .ok (.list ((sortI ns).map .int)) := by unfold hSort; dsimp only; rw [intsOf_map]
theorem hSortSet_i {ns : List Int} (h : ns.length ≤ 4000) : hSortSet (.list (ns.map .int)) = .ok (.list ((setI ns).map .int)) := by unfold hSortSet; dsimp only; rw [intsOf_map]; exact if_pos h
theorem hLenSet_i {ns : List Int} (h : ns.length ≤ 4000) : hLenSet (.list (ns.map .int)) = .ok (.int (setI ns).length) := by unfold hLenSet; dsimp only; rw [intsOf_map]; exact if_pos h
theorem hListOf_l {ds : List Dt} : hListOf [.list ds] = .ok (.list ds) := rfl
theorem hIsi_e {n : String} {d : Dt} : hIsi n d = .ok (.bool (isT n d)) := rfl
theorem oNone_e {ρ : MEnv} : oNone ρ = .ok none := rfl
theorem oSome_e {a : MP} {ρ : MEnv} : oSome a ρ = (a ρ).bind asI := rfl
theorem asI_int {i : Int} : asI (.int i) = .ok (some i) := rfl
theorem pSlL_e {a : MP} {lo hi : MEnv → O (Option Int)} {ρ : MEnv} : pSlL a lo hi ρ = (a ρ).bind fun d => (lo ρ).bind fun l => (hi ρ).bind fun h => slLK d l h := rfl
theorem slLK_l {ds : List Dt} {l h : Option Int} : slLK (.list ds) l h = .ok (.list (cutD ds l h)) := rfl
theorem hRev_l {ds : List Dt} : hRev (.list ds) = .ok (.list ds.reverse) := rfl
theorem iL_e {a : MP} {ρ : MEnv} : iL a ρ = (a ρ).bind asL := rfl
theorem iR1_e {a : MP} {ρ : MEnv} : iR1 a ρ = (a ρ).bind rng1K := rfl
theorem rng1K_i {m : Int} (h : -10000000 ≤ m ∧ m ≤ 10000000) : rng1K (.int m) = .ok (rngD 0 m.toNat) := if_pos h
theorem iR2_e {a b : MP} {ρ : MEnv} : iR2 a b ρ = (a ρ).bind fun d => (b ρ).bind fun e => rng2K d e := rfl
theorem rng2K_i {l m : Int} (h : -10000000 ≤ l ∧ l ≤ 10000000 ∧ -10000000 ≤ m ∧ m ≤ 10000000) : rng2K (.int l) (.int m) = .ok (rngD l (m - l).toNat) := if_pos h
theorem iZ_e {a b : MP} {ρ : MEnv} : iZ a b ρ = (a ρ).bind fun d => (b ρ).bind fun e => zipK d e := rfl
theorem zipK_l {xs ys : List Dt} : zipK (.list xs) (.list ys) = .ok (zipD xs ys) := rfl
theorem iE_e {a : MP} {ρ : MEnv} : iE a ρ = (a ρ).bind enumK := rfl
theorem enumK_l {xs : List Dt} : enumK (.list xs) = .ok (enumD 0 xs) := rfl
theorem iT_e {a : MP} {ρ : MEnv} : iT a ρ = (a ρ).bind asTu := rfl
theorem asTu_t {ds : List Dt} : asTu (.tuple ds) = .ok ds := rfl
theorem sNext_e {ρ : MEnv} : sNext ρ = .ret (.nx ρ) := rfl
theorem sSeq_e {s t : MS} {ρ : MEnv} : sSeq s t ρ = (s ρ).bind (seqK t) := rfl
theorem sSet_e {i : Nat} {a : MP} {ρ : MEnv} : sSet i a ρ = ofO (a ρ) ρ fun d => .ret (.nx (ρ.set i (cellOf d))) := rfl
theorem sOwn_e {i : Nat} {a : MP} {ρ : MEnv} : sOwn i a ρ = ofO ((a ρ).bind gOwn) ρ fun ds => .ret (.nx (ρ.set i (.own ds))) := rfl
theorem sRet_e {a : MP} {ρ : MEnv} : sRet a ρ = ofO (a ρ) ρ fun d => .ret (.rt (.val d) ρ) := rfl
theorem sRetN_e {a : MP} {ρ : MEnv} : sRetN a ρ = ofO ((a ρ).bind asL) ρ fun ds => .ret (.rt (.new ds) ρ) := by unfold sRetN; cases a ρ with | ok d => cases d <;> rfl | ex x => rfl | no => rfl
theorem sRetO_e {i : Nat} {ρ : MEnv} : sRetO i ρ = ownC0 (at_ ρ i) fun ds => .ret (.rt (.new ds) ρ) := rfl
theorem sDrop_e {a : MP} {ρ : MEnv} : sDrop a ρ = ofO (a ρ) ρ fun _ => .ret (.nx ρ) := rfl
theorem sIf_e {t : MB} {a b : MS} {ρ : MEnv} : sIf t a b ρ = ofO (t ρ) ρ fun c => bif c then a ρ else b ρ := rfl
theorem sRz_e {x : Str} {ρ : MEnv} : sRz x ρ = .exc x ρ := rfl
theorem sApp_e {i : Nat} {a : MP} {ρ : MEnv} : sApp i a ρ = ownC (at_ ρ i) fun ds => ofO (a ρ) ρ fun d => ownTo i ρ (gApp ds d) := rfl
theorem gApp_e {ds : List Dt} {d : Dt} (h : noLst d = true ∧ ds.length < 100000) : gApp ds d = .ok (ds ++ [d]) := if_pos h
theorem sAug_e {i : Nat} {v : MP} {ρ : MEnv} : sAug i v ρ = valC (at_ ρ i) (ofO (v ρ) ρ fun d => ofO (augC (at_ ρ i) d) ρ fun z => .ret (.nx (ρ.set i (.val z)))) := rfl
theorem sPar_e {i j : Nat} {a b : MP} {ρ : MEnv} : sPar i j a b ρ = ofO (a ρ) ρ fun d => ofO (b ρ) ρ fun e => .ret (.nx ((ρ.set i (cellOf d)).set j (cellOf e))) := rfl
theorem sPar3_e {i j l : Nat} {a b c : MP} {ρ : MEnv} : sPar3 i j l a b c ρ = ofO (a ρ) ρ fun d => ofO (b ρ) ρ fun e => ofO (c ρ) ρ fun f => .ret (.nx (((ρ.set i (cellOf d)).set j (cellOf e)).set l (cellOf f))) := rfl
theorem sParO_e {i j : Nat} {a b : MP} {ρ : MEnv} : sParO i j a b ρ = ofO ((a ρ).bind gOwn) ρ fun ds => ofO ((b ρ).bind gOwn) ρ fun es => .ret (.nx ((ρ.set i (.own ds)).set j (.own es))) := rfl
theorem sPar3O_e {i j l : Nat} {a b c : MP} {ρ : MEnv} : sPar3O i j l a b c ρ = ofO ((a ρ).bind gOwn) ρ fun ds => ofO ((b ρ).bind gFz) ρ fun e => ofO ((c ρ).bind gFz) ρ fun f => .ret (.nx (((ρ.set i (.own ds)).set j (cellOf e)).set l (cellOf f))) := rfl
theorem sFor_e {src : MI} {g : Tg} {b : MS} {ρ : MEnv} : sFor src g b ρ = ofO (src ρ) ρ fun ds => forL g b ds ρ := rfl
theorem sAsg_e {g : Tg} {a : MP} {ρ : MEnv} : sAsg g a ρ = ofO (a ρ) ρ fun d => ofO (g.put d ρ) ρ fun ρ' => .ret (.nx ρ') := rfl
theorem mkF1 {n : Nat} {s : MS} {x0 : Dt} : mkF 1 n s [x0] = toRs (s (.val x0 :: List.replicate (n - 1) .no)) := rfl
theorem mkF2 {n : Nat} {s : MS} {x0 x1 : Dt} : mkF 2 n s [x0, x1] = toRs (s (.val x0 :: .val x1 :: List.replicate (n - 2) .no)) := rfl
theorem mkF3 {n : Nat} {s : MS} {x0 x1 x2 : Dt} : mkF 3 n s [x0, x1, x2] = toRs (s (.val x0 :: .val x1 :: .val x2 :: List.replicate (n - 3) .no)) := rfl
theorem mkF4 {n : Nat} {s : MS} {x0 x1 x2 x3 : Dt} : mkF 4 n s [x0, x1, x2, x3] = toRs (s (.val x0 :: .val x1 :: .val x2 :: .val x3 :: List.replicate (n - 4) .no)) := rfl
theorem mkF5 {n : Nat} {s : MS} {x0 x1 x2 x3 x4 : Dt} : mkF 5 n s [x0, x1, x2, x3, x4] = toRs (s (.val x0 :: .val x1 :: .val x2 :: .val x3 :: .val x4 :: List.replicate (n - 5) .no)) := rfl
theorem mkF6 {n : Nat} {s : MS} {x0 x1 x2 x3 x4 x5 : Dt} : mkF 6 n s [x0, x1, x2, x3, x4, x5] = toRs (s (.val x0 :: .val x1 :: .val x2 :: .val x3 :: .val x4 :: .val x5 :: List.replicate (n - 6) .no)) := rfl
theorem rep0 {α : Type} {x : α} : List.replicate 0 x = [] := rfl
theorem repS {α : Type} {x : α} {n : Nat} : List.replicate (n + 1) x = x :: List.replicate n x := rfl
theorem set0 {α : Type} {x y : α} {l : List α} : (x :: l).set 0 y = y :: l := rfl
theorem setS {α : Type} {x y : α} {l : List α} {n : Nat} : (x :: l).set (n + 1) y = x :: l.set n y := rfl
theorem ctrue {α : Type} {a b : α} : (bif true then a else b) = a := rfl
theorem cfalse {α : Type} {a b : α} : (bif false then a else b) = b := rfl
theorem condO {α : Type} {c : Bool} {x y : α} : (bif c then O.ok x else O.ok y) = O.ok (bif c then x else y) := by cases c <;> rfl
theorem condAnd {c b : Bool} : (bif c then b else false) = (c && b) := by cases c <;> rfl
theorem condOr {c b : Bool} : (bif c then true else b) = (c || b) := by cases c <;> rfl
theorem condD {c x y : Bool} : (bif c then PyData.bool x else PyData.bool y) = PyData.bool (bif c then x else y) := by cases c <;> rfl
theorem isT_int_int {i : Int} : isT "int" (.int i) = true := by simp [isT]
theorem isT_bool_int {i : Int} : isT "bool" (.int i) = false := by simp [isT]
theorem isT_str_int {i : Int} : isT "str" (.int i) = false := by simp [isT]
theorem isT_list_int {i : Int} : isT "list" (.int i) = false := by simp [isT]
theorem isT_tuple_int {i : Int} : isT "tuple" (.int i) = false := by simp [isT]
theorem isT_int_bool {i : Bool} : isT "int" (.bool i) = true := by simp [isT]
theorem isT_bool_bool {i : Bool} : isT "bool" (.bool i) = true := by simp [isT]
theorem isT_str_bool {i : Bool} : isT "str" (.bool i) = false := by simp [isT]
theorem isT_list_bool {i : Bool} : isT "list" (.bool i) = false := by simp [isT]
theorem isT_tuple_bool {i : Bool} : isT "tuple" (.bool i) = false := by simp [isT]
theorem isT_int_str {i : Str} : isT "int" (.str i) = false := by simp [isT]
theorem isT_bool_str {i : Str} : isT "bool" (.str i) = false := by simp [isT]
theorem isT_str_str {i : Str} : isT "str" (.str i) = true := by simp [isT]
theorem isT_list_str {i : Str} : isT "list" (.str i) = false := by simp [isT]
theorem isT_tuple_str {i : Str} : isT "tuple" (.str i) = false := by simp [isT]
theorem isT_int_list {i : List Dt} : isT "int" (.list i) = false := by simp [isT]
theorem isT_bool_list {i : List Dt} : isT "bool" (.list i) = false := by simp [isT]
theorem isT_str_list {i : List Dt} : isT "str" (.list i) = false := by simp [isT]
theorem isT_list_list {i : List Dt} : isT "list" (.list i) = true := by simp [isT]
theorem isT_tuple_list {i : List Dt} : isT "tuple" (.list i) = false := by simp [isT]
theorem isT_int_tuple {i : List Dt} : isT "int" (.tuple i) = false := by simp [isT]
theorem isT_bool_tuple {i : List Dt} : isT "bool" (.tuple i) = false := by simp [isT]
theorem isT_str_tuple {i : List Dt} : isT "str" (.tuple i) = false := by simp [isT]
theorem isT_list_tuple {i : List Dt} : isT "list" (.tuple i) = false := by simp [isT]
theorem isT_tuple_tuple {i : List Dt} : isT "tuple" (.tuple i) = true := by simp [isT]
theorem isT_int_none : isT "int" (.none) = false := by simp [isT]
theorem isT_bool_none : isT "bool" (.none) = false := by simp [isT]
theorem isT_str_none : isT "str" (.none) = false := by simp [isT]
theorem isT_list_none : isT "list" (.none) = false := by simp [isT]
theorem isT_tuple_none : isT "tuple" (.none) = false := by simp [isT]
theorem wP_e {a : MP} {ρ : MEnv} : wP a ρ = ofO (a ρ) ρ fun d => .ret (d, ρ) := rfl
theorem wPB_e {a : MB} {ρ : MEnv} : wPB a ρ = ofO (a ρ) ρ fun d => .ret (d, ρ) := rfl
theorem wOp_e {h : Dt → Dt → O Dt} {a b : MX Dt} {ρ : MEnv} : wOp h a b ρ = (a ρ).bind fun x => (b x.2).bind fun y => wO ((h x.1 y.1).bind gFz) y.2 := rfl
theorem wUn_e {h : Dt → O Dt} {a : MX Dt} {ρ : MEnv} : wUn h a ρ = (a ρ).bind fun x => wO ((h x.1).bind gFz) x.2 := rfl
theorem wIf_e {t : MX Bool} {a b : MX Dt} {ρ : MEnv} : wIf t a b ρ = (t ρ).bind fun c => bif c.1 then a c.2 else b c.2 := rfl
theorem wTest_e {a : MX Dt} {ρ : MEnv} : wTest a ρ = (a ρ).bind fun x => wO (asB x.1) x.2 := rfl
theorem wAnd_e {a b : MX Bool} {ρ : MEnv} : wAnd a b ρ = (a ρ).bind fun x => bif x.1 then b x.2 else .ret (false, x.2) := rfl
theorem wOr_e {a b : MX Bool} {ρ : MEnv} : wOr a b ρ = (a ρ).bind fun x => bif x.1 then .ret (true, x.2) else b x.2 := rfl
theorem wNot_e {a : MX Bool} {ρ : MEnv} : wNot a ρ = (a ρ).bind fun x => .ret (!x.1, x.2) := rfl
theorem wOfB_e {a : MX Bool} {ρ : MEnv} : wOfB a ρ = (a ρ).bind fun x => .ret (.bool x.1, x.2) := rfl
theorem waNil_e {ρ : MEnv} : waNil ρ = .ret ([], ρ) := rfl
theorem waCons_e {a : MX Dt} {r : MX (List Dt)} {ρ : MEnv} : waCons a r ρ = (a ρ).bind fun x => (r x.2).bind fun y => .ret (x.1 :: y.1, y.2) := rfl
theorem wTup_e {a : MX (List Dt)} {ρ : MEnv} : wTup a ρ = (a ρ).bind fun x => wO (tupK x.1) x.2 := by unfold wTup; congr 1; funext x; unfold tupK; split <;> rfl
theorem wLst_e {a : MX (List Dt)} {ρ : MEnv} : wLst a ρ = (a ρ).bind fun x => wO (lstK x.1) x.2 := by unfold wLst; congr 1; funext x; unfold lstK; split <;> rfl
theorem wCB_e {h : List Dt → O Dt} {a : MX (List Dt)} {ρ : MEnv} : wCB h a ρ = (a ρ).bind fun x => wO ((h x.1).bind gFz) x.2 := rfl
theorem wCall_e {m : MF} {a : MX (List Dt)} {ρ : MEnv} : wCall m a ρ = (a ρ).bind fun x => wO (((m x.1).bind asDt).bind gFz) x.2 := rfl
theorem wDraw_e {i : Nat} {a : MX Dt} {ρ : MEnv} : wDraw i a ρ = drC (at_ ρ i) ((a ρ).bind fun x => drC (at_ x.2 i) (drawK x.2 x.1)) := rfl
theorem drawK_i {n : Int} {ρ : MEnv} (h : 0 < n ∧ n ≤ 1000001) : drawK ρ (.int n) = .any (isR n) fun d => .ret (d, ρ) := if_pos h
theorem wPick_e {i : Nat} {a : MX Dt} {ρ : MEnv} : wPick i a ρ = drC (at_ ρ i) ((a ρ).bind fun x => drC (at_ x.2 i) (pickK x.2 x.1)) := rfl
theorem pickK_l {ds : List Dt} {ρ : MEnv} (h : ds ≠ [] ∧ ds.length ≤ 1000) : pickK ρ (.list ds) = .any (fun d => d ∈ ds) fun d => wO (gFz d) ρ := if_pos h
theorem wGear_e {i : Nat} {ρ : MEnv} : wGear i ρ = drC (at_ ρ i) (.any isG fun d => .ret (d, ρ)) := rfl
theorem wsSet_e {i : Nat} {a : MX Dt} {ρ : MEnv} : wsSet i a ρ = (a ρ).bind fun x => .ret (.nx (x.2.set i (cellOf x.1))) := rfl
theorem wsPar_e {i j : Nat} {a b : MX Dt} {ρ : MEnv} : wsPar i j a b ρ = (a ρ).bind fun x => (b x.2).bind fun y => .ret (.nx ((y.2.set i (cellOf x.1)).set j (cellOf y.1))) := rfl
theorem wsAsg_e {g : Tg} {a : MX Dt} {ρ : MEnv} : wsAsg g a ρ = (a ρ).bind fun x => ofO (g.put x.1 x.2) x.2 fun ρ' => .ret (.nx ρ') := rfl
theorem wsDrop_e {a : MX Dt} {ρ : MEnv} : wsDrop a ρ = (a ρ).bind fun x => .ret (.nx x.2) := rfl
theorem wsRet_e {a : MX Dt} {ρ : MEnv} : wsRet a ρ = (a ρ).bind fun x => .ret (.rt (.val x.1) x.2) := rfl
theorem wsIf_e {t : MX Bool} {a b : MS} {ρ : MEnv} : wsIf t a b ρ = (t ρ).bind fun c => bif c.1 then a c.2 else b c.2 := rfl
theorem sStart_e {i j : Nat} {ρ : MEnv} : sStart i j ρ = stC (at_ ρ i) (.fresh fun p q => .ret (.nx (ρ.set j (.dr p q)))) := rfl
theorem pCB_sort {a : MA} {ρ : MEnv} : pCB hSort a ρ = (a ρ).bind hSort := rfl
def evs := And.intro @O.bind_ok (And.intro @O.bind_ex (And.intro @O.bind_no (And.intro @O.nx_ok (And.intro @asDt_val (And.intro @asDt_new (And.intro @asNew_new (And.intro @cellOf_list (And.intro @cellOf_int (And.intro @cellOf_bool (And.intro @cellOf_str (And.intro @cellOf_none (And.intro @cellOf_tuple (And.intro @pC_eq (And.intro @cellD_val (And.intro @cellD_tl (And.intro @cellD_own (And.intro @at_0 (And.intro @at_s (And.intro @cellG_val (And.intro @cellG_tl (And.intro @cellV_int (And.intro @cellV_bool (And.intro @cellV_str (And.intro @cellV_none (And.intro @cellV_tuple (And.intro @cellV_tl (And.intro @cellL_tl (And.intro @cellL_own (And.intro @asB_bool (And.intro @asL_list (And.intro @put_one (And.intro @put_two (And.intro @wipeE_nil (And.intro @wipeE_cons (And.intro @T.bind_ret (And.intro @T.bind_exc (And.intro @T.bind_any (And.intro @T.bind_fresh (And.intro @T.bind_no (And.intro @ofO_ok (And.intro @ofO_ex (And.intro @ofO_no (And.intro @seqK_nx (And.intro @seqK_rt (And.intro @seqK_bk (And.intro @seqK_ct (And.intro @forK_nx (And.intro @forK_ct (And.intro @forK_bk (And.intro @forK_rt (And.intro @ownC_own (And.intro @ownC0_own (And.intro @ownTo_ok (And.intro @augC_int (And.intro @valC_val (And.intro @toRs_rt (And.intro @toRs_nx (And.intro @toRs_exc (And.intro @wO_ok (And.intro @drC_dr (And.intro @T.all_ret (And.intro @T.all_exc (And.intro @T.all_any (And.intro @T.all_fresh (And.intro @intsOf_map (And.intro @blsOf_map (And.intro @pVar_e (And.intro @pVal_e (And.intro @pGv_e (And.intro @pLv_e (And.intro @pOp_e (And.intro @pUn_e (And.intro @aNil_e (And.intro @aCons_e (And.intro @pTup0 (And.intro @pLst0 (And.intro @tupK0 (And.intro @lstK0 (And.intro @tupK1 (And.intro @lstK1 (And.intro @tupK2 (And.intro @lstK2 (And.intro @tupK3 (And.intro @lstK3 (And.intro @tupK4 (And.intro @lstK4 (And.intro @tupK5 (And.intro @lstK5 (And.intro @tupK6 (And.intro @lstK6 (And.intro @pCB_e (And.intro @pBM_e (And.intro @pCall_e (And.intro @pCallN_e (And.intro @pCallL_e (And.intro @pCallLN_e (And.intro @pIf_e (And.intro @bTest_e (And.intro @bYes_e (And.intro @bAnd_e (And.intro @bOr_e (And.intro @bNot_e (And.intro @pOfB_e (And.intro @pAnd_e (And.intro @pOr_e (And.intro @pNot_e (And.intro @pChain_e (And.intro @pFz_e (And.intro @pFn_e (And.intro @gFz_int (And.intro @gFz_bool (And.intro @gFz_str (And.intro @gFz_none (And.intro @gFz_gear (And.intro @gFz_ii (And.intro @gFn_ints (And.intro @gFn_nil (And.intro @gOwn_nil (And.intro @gOwn_i1 (And.intro @gOwn_ints (And.intro @hAdd_i (And.intro @hSub_i (And.intro @hMulL_i (And.intro @hMulR_i (And.intro @hMod_i (And.intro @hDiv_i (And.intro @hNeg_i (And.intro @hLt_i (And.intro @hLe_i (And.intro @hGt_i (And.intro @hGe_i (And.intro @hEq_i (And.intro @hNe_i (And.intro @hEq_b (And.intro @hNe_b (And.intro @hEq_L (And.intro @hNe_L (And.intro @hEq_L0 (And.intro @hNe_L0 (And.intro @hNe_LN (And.intro @hNe_iN (And.intro @hNe_NN (And.intro @hNe_Ni (And.intro @hIsN_i (And.intro @hIsN_n (And.intro @hIsN_t (And.intro @hIsN_l (And.intro @hNotN_i (And.intro @hNotN_n (And.intro @hIsB_b (And.intro @hNotB_b (And.intro @hIn_I (And.intro @hNi_I (And.intro @hIx_0 (And.intro @hIx_1 (And.intro @hIx_2 (And.intro @hLen_L (And.intro @hLen_T (And.intro @hMin2_i (And.intro @hMax2_i (And.intro @hAbs_i (And.intro @hSum_i (And.intro @hSort_i (And.intro @hSortSet_i (And.intro @hLenSet_i (And.intro @hListOf_l (And.intro @hIsi_e (And.intro @oNone_e (And.intro @oSome_e (And.intro @asI_int (And.intro @pSlL_e (And.intro @slLK_l (And.intro @hRev_l (And.intro @iL_e (And.intro @iR1_e (And.intro @rng1K_i (And.intro @iR2_e (And.intro @rng2K_i (And.intro @iZ_e (And.intro @zipK_l (And.intro @iE_e (And.intro @enumK_l (And.intro @iT_e (And.intro @asTu_t (And.intro @sNext_e (And.intro @sSet_e (And.intro @sOwn_e (And.intro @sRet_e (And.intro @sRetN_e (And.intro @sRetO_e (And.intro @sDrop_e (And.intro @sIf_e (And.intro @sRz_e (And.intro @sApp_e (And.intro @gApp_e (And.intro @sAug_e (And.intro @sPar_e (And.intro @sPar3_e (And.intro @sParO_e (And.intro @sPar3O_e (And.intro @sFor_e (And.intro @sAsg_e (And.intro @mkF1 (And.intro @mkF2 (And.intro @mkF3 (And.intro @mkF4 (And.intro @mkF5 (And.intro @mkF6 (And.intro @rep0 (And.intro @repS (And.intro @set0 (And.intro @setS (And.intro @ctrue (And.intro @cfalse (And.intro @Bool.and_true (And.intro @Bool.true_and (And.intro @Bool.and_false (And.intro @Bool.false_and (And.intro @Bool.or_true (And.intro @Bool.true_or (And.intro @Bool.or_false (And.intro @Bool.false_or (And.intro @Bool.not_true (And.intro @Bool.not_false (And.intro @Bool.not_not (And.intro @condO (And.intro @condAnd (And.intro @condOr (And.intro @condD (And.intro @isT_int_int (And.intro @isT_bool_int (And.intro @isT_str_int (And.intro @isT_list_int (And.intro @isT_tuple_int (And.intro @isT_int_bool (And.intro @isT_bool_bool (And.intro @isT_str_bool (And.intro @isT_list_bool (And.intro @isT_tuple_bool (And.intro @isT_int_str (And.intro @isT_bool_str (And.intro @isT_str_str (And.intro @isT_list_str (And.intro @isT_tuple_str (And.intro @isT_int_list (And.intro @isT_bool_list (And.intro @isT_str_list (And.intro @isT_list_list (And.intro @isT_tuple_list (And.intro @isT_int_tuple (And.intro @isT_bool_tuple (And.intro @isT_str_tuple (And.intro @isT_list_tuple (And.intro @isT_tuple_tuple (And.intro @isT_int_none (And.intro @isT_bool_none (And.intro @isT_str_none (And.intro @isT_list_none (And.intro @isT_tuple_none (And.intro @wP_e (And.intro @wPB_e (And.intro @wOp_e (And.intro @wUn_e (And.intro @wIf_e (And.intro @wTest_e (And.intro @wAnd_e (And.intro @wOr_e (And.intro @wNot_e (And.intro @wOfB_e (And.intro @waNil_e (And.intro @waCons_e (And.intro @wTup_e (And.intro @wLst_e (And.intro @wCB_e (And.intro @wCall_e (And.intro @wDraw_e (And.intro @drawK_i (And.intro @wPick_e (And.intro @pickK_l (And.intro @wGear_e (And.intro @wsSet_e (And.intro @wsPar_e (And.intro @wsAsg_e (And.intro @wsDrop_e (And.intro @wsRet_e (And.intro @wsIf_e (@sStart_e)))))))))))))))))))))))))))))))))))))))))))))))))))))))))))))))))))))))))))))))))))))))))))))))))))))))))))))))))))))))))))))))))))))))))))))))))))))))))))))))))))))))))))))))))))))))))))))))))))))))))))))))))))))))))))))))))))))))))))))))))))))))))))))))))))))))))))))))))))))))))))))))
end Wc

/-! Exceptions that are kept: try: .. except X as e: x = e. -/
namespace Wc
open PySem PySem.Spec PyProof.Rows L2
section
variable {X : Cx} {pins : List (Addr × Obj)} {σ : L2.St} {H : Hp} {s : Shared}
theorem exk_ok {P : Program} {w : World} {h : Heap} {a : Addr} {cls : Value} {oe : Obj} {vs : Array Value} (e : h.get? a = some oe) (z : Zc cls none oe) (d : oe.data = .fields vs) : ObjOk P w H h a (ExK cls a) :=
  ⟨⟨oe, vs, e, z, d⟩, ⟨oe, e⟩, fun _ _ ⟨o, v, q, r⟩ k => ⟨o, v, k o q, r⟩⟩
/-- an exception's object that is pinned becomes tracked -/
theorem inv_track {a : Addr} {oe : Obj} {vs : Array Value} {cls : Value} (I : Inv X ((a, oe) :: pins) σ H s) (hz : Zc cls none oe) (hd : oe.data = .fields vs) (n0 : X.s_0.heap.get? a = none) (hp : ∀ p ∈ X.pn ++ pins, p.1 ≠ a) : Inv X pins σ (L2.upd H a (ExK cls a)) s := by
  obtain ⟨e, n, nl, nf, nc⟩ := I.pin (a, oe) (by simp)
  dsimp only at e n nl nf nc
  have ne0 : ∀ b o, X.s_0.heap.get? b = some o → b ≠ a := fun b o q z => by rw [z, n0] at q; cases q
  refine ⟨I.ok, I.os, I.bare, ⟨I.base.keep, I.base.slot, fun b o q n hx => ?_, I.base.there, fun b xs q => ?_, fun b o u q => ?_, fun b ps q => ?_⟩, I.loc, I.cell, ?_, fun x c q => ?_, fun p hm => ?_, ?_, I.len⟩
  · rw [upd_ne (ne0 b o q)]
    exact I.base.free b o q n hx
  · have z := I.base.tups b xs q
    rw [upd_ne (fun y => by rw [y, n] at z; cases z)]
    exact z
  · have z := I.base.frzs b o u q
    rw [upd_ne (fun y => by rw [y, n] at z; cases z)]
    exact z
  · obtain ⟨m, z⟩ := I.base.tbls b ps q
    exact ⟨m, by rw [upd_ne (fun y => by rw [y, n] at z; cases z)]; exact z⟩
  · rw [upd_ne (Ne.symm nl)]
    exact I.free
  · obtain ⟨v, o, q1, q2⟩ := I.cell x c q
    rw [upd_ne (fun y => by
      rw [y, e] at q1
      cases q1
      exact nc v q2)]
    exact I.freeC x c q
  · obtain ⟨z1, z2, z3, z4, z5⟩ := I.pin p (by
      rcases List.mem_append.mp hm with h | h
      · exact List.mem_append_left _ h
      · exact List.mem_append_right _ (List.mem_cons_of_mem _ h))
    exact ⟨z1, by rw [upd_ne (hp p hm)]; exact z2, z3, z4, z5⟩
  · intro b u q
    by_cases hb : b = a
    · subst hb
      rw [upd_same] at q
      cases q
      exact exk_ok e hz hd
    · rw [upd_ne hb] at q
      exact (I.hok b u q).stay (fun c v _ q => q) (fun c q => by rw [upd_ne (ne_of_none q n)]; exact q) fun c xs q => by rw [upd_ne (ne_of_none q n)]; exact q
end
/-- what such a clause wishes of an exception of the body -/
def wKeep (K : Fg) (c : Value) (i j : Nat) (Wout : WX) (D : Ends) : WX := fun cls d σ H =>
  ∃ b, PySem.W.exmOne K cls c = some b ∧ (b = true → d = none ∧ ∀ a, H a = none → D.nx (((σ.set i (some (.ref a))).set j (some (.ref a))).set i none) (L2.upd H a (ExK cls a))) ∧ (b = false → Wout cls d σ H)
section
variable {X : Cx} {x n m : Str} {c : Value} {i j : Nat} {body : List Stmt} {np np2 pos pos' p1 p2 : Pos} {tb : WX → TS} {Wout : WX}
theorem ps_keepX (hex : X.ex = []) (hs : X.stack = X.env :: X.outer) (hf : X.env.frame = some X.env.locals) (hN : X.N.Nodup) (hi : X.N[i]? = some n) (hj : X.N[j]? = some m) (hln : X.env.kindOf n = some .local) (hlm : X.env.kindOf m = some .local) (hc : Names X x c) (tk : Takes X Wout)
    (hb : ∀ (W : WX) (pn : List (Addr × Obj)) (xe : Value → Shared → Prop), Takes (X.tr pn xe) W → PassesOwn (model X.prog X.w) X.A X.env xe → PSs (X.tr pn xe) body (tb W))
    (hsu : ∀ (a : Addr) (oe : Obj) (pn : List (Addr × Obj)), PSs (X.suite a ((a, oe) :: pn)) [.Assign [.Name m p1] (.Name n p2) np2] (tAsg (tVar i) (gName j))) :
    PS X (.Try body [.ExceptHandler (some (.Name x np)) (some n) [.Assign [.Name m p1] (.Name n p2) np2] pos'] [] [] pos) (fun D σ H => tb (wKeep X.K c i j Wout D) D σ H) := by
  refine ⟨fun pins s σ H D I h => ?_⟩
  have ok := I.ok
  have hfr : X.A.frames = some (X.env :: X.outer) := by rw [ok.frames, hs]
  have hloc : Loc X.env.scope n := .inl hln
  refine wpAny_Try_except ?_
  refine wpAny_mono ((hb (wKeep X.K c i j Wout D) (X.pn ++ pins) (fun e s₁ => wpAny (model X.prog X.w) X.A (noteFrame e X.env) (fun _ s₂ => wpAny (model X.prog X.w) X.A (setFlight e none) (fun _ s₃ =>
    wpAny (model X.prog X.w) X.A (handleBy e X.env [.ExceptHandler (some (.Name x np)) (some n) [.Assign [.Name m p1] (.Name n p2) np2] pos']) (SP X pins D) X.xe s₃) X.xe s₂) X.xe s₁) (fun u s' xx => ?_) PassesOwn.looking).run [] s σ H D (I.toTry _) h) (fun f s1 hsp => ?_) (fun e s1 he => he)
  · -- the catch
    obtain ⟨a, B, sI, pins', σ', H', cls, d, rfl, J', nb, up, sky, na, os, ag, b, hb1, hyes, hno⟩ := xx
    have J : Inv X pins σ' H' sI := J'.ofTry ok
    have sky' : Sky B (X.env :: X.outer) a (Zc cls d) X.env.locals s'.heap := by rw [← hs]; exact sky
    show wpAny (model X.prog X.w) X.A (noteFrame (.ref a) X.env) _ _ _
    refine Sky.land Zc.steady hfr hf sky' fun h3 fl3 up3 => ?_
    have J3 : Inv X pins σ' H' { s' with heap := h3 } := J.landed nb fl3.1 (up.trans up3) os ag
    obtain ⟨oe3, vs3, he3, hz3, hd3⟩ := fl3.there
    have notFr : ∀ {h : Heap} {o : Obj} {vs : Array Value}, h.FunFrames B (X.env :: X.outer) → h.get? a = some o → o.data = .fields vs → a ∉ frs (X.env :: X.outer) := fun {h o vs} ff e dd hm => by
      obtain ⟨_, o', e', hnf⟩ := ff.mem hm
      rw [e] at e'; cases e'
      exact hnf _ dd
    have nfr := notFr fl3.2.2.1 he3 hd3
    have nL : a ≠ X.env.locals := fun z => nfr (List.mem_filterMap.mpr ⟨X.env, List.mem_cons_self, by rw [hf, z]⟩)
    have nF : a ∉ X.fs := fun hm => by
      obtain ⟨e, he, q⟩ := List.mem_filterMap.mp hm
      exact nfr (List.mem_filterMap.mpr ⟨e, List.mem_cons_of_mem _ he, q⟩)
    have nI : sI.heap.get? a = none := by
      cases q : sI.heap.get? a with
      | none => rfl
      | some o =>
        have z := nb a o q (by rw [hs]; exact nfr)
        rw [fl3.2.1] at z
        cases z
    have n0 : X.s_0.heap.get? a = none := by
      cases q : X.s_0.heap.get? a with
      | none => rfl
      | some o =>
        obtain ⟨o', z⟩ := J.base.there a o q (by rw [hex]; nofun)
        rw [nI] at z
        cases z
    have npin : ∀ p ∈ X.pn ++ pins, p.1 ≠ a := fun p hm z => by
      have q := (J.pin p hm).1
      rw [z, nI] at q
      cases q
    have S3 := J3.suite he3 hd3 na nL nF
    refine wpAny_handleBy_cons (codeAny_handlers_test ?_) (by intro q; cases q)
    have LT : PySem.W.Looks (model X.prog X.w) h3 (typeOf (.ref a)) cls := fun A Q E s k q => wpAny_typeOf_ref (k _ _ he3) (by rw [hz3.1]; exact q)
    have LM := PySem.W.exm_one (M := model X.prog X.w) (J3.kIn) LT hb1
    have test : ∀ {Q : Value → Shared → Prop} {E : Value → Shared → Prop}, Q c { s' with heap := h3 } → wpAny (model X.prog X.w) (X.A.mark (some (.ref a))) (eval (.Name x np) X.env) Q E { s' with heap := h3 } := fun {Q E} q => by
      obtain ⟨hg, hdbg, hm | ⟨hm, hv, hnn⟩⟩ := hc
      · exact ld_glob (X := X.suite a ((a, oe3) :: (X.pn ++ pins))) S3 hg hm q hdbg
      · exact ld_blt (X := X.suite a ((a, oe3) :: (X.pn ++ pins))) S3 hg hm hv q hnn hdbg
    refine test (LM.here ?_)
    cases b with
    | true =>
      obtain ⟨dn, yes⟩ := hyes rfl
      subst dn
      refine codeAny_handlers_suite_as ?_
      refine HandSPX.lands_againZ fl3 fun h4 fl4 up4 => ?_
      have J4 : Inv X pins σ' H' { s' with heap := h4 } := J.landed nb fl4.1 ((up.trans up3).trans up4) os ag
      obtain ⟨oe4, vs4, he4, hz4, hd4⟩ := fl4.there
      have S4 := J4.suite he4 hd4 na nL nF
      refine store_ok (X := X.suite a ((a, oe4) :: (X.pn ++ pins))) (v := .ref a) S4 hN hi hloc rfl (fun s5 S5 => ?_) (.inr hln)
      have hlen : i < σ'.length := by
        rw [J4.len]
        exact (List.getElem?_eq_some_iff.mp hi).1
      refine wpAny_mono ((hsu a oe4 (X.pn ++ pins)).run [] s5 _ H' { nx := fun σ6 H6 => σ6 = (σ'.set i (some (.ref a))).set j (some (.ref a)) ∧ H6 = H', rt := fun _ _ => False } S5 ⟨.ref a, List.getElem?_set_self hlen, rfl, rfl⟩) (fun f s6 hsp => ?_) (fun _ _ z => False.elim z)
      cases f with
      | next =>
        obtain ⟨σ6, H6, S6, rfl, rfl⟩ := hsp
        have S6' : Inv X ((a, oe4) :: pins) ((σ'.set i (some (.ref a))).set j (some (.ref a))) H6 s6 := ⟨ok, S6.os, S6.bare, S6.base, S6.loc, S6.cell, S6.free, S6.freeC, fun p hp => S6.pin p (by
          rcases List.mem_append.mp hp with h | h
          · exact List.mem_append_left _ (List.mem_cons_of_mem _ (List.mem_append_left _ h))
          · rcases List.mem_cons.mp h with h | h
            · rw [h]
              exact List.mem_append_left _ List.mem_cons_self
            · exact List.mem_append_left _ (List.mem_cons_of_mem _ (List.mem_append_right _ h))), S6.hok, S6.len⟩
        exact gone_ok S6' hN hi hln fun s7 J7 => ⟨_, _, inv_track J7 hz4 hd4 n0 npin, yes a na⟩
      | brk =>
        obtain ⟨σ6, H6, S6, z⟩ := hsp
        exact z.elim
      | cont =>
        obtain ⟨σ6, H6, S6, z⟩ := hsp
        exact z.elim
      | ret u =>
        obtain ⟨v6, σ6, H6, S6, r6, z⟩ := hsp
        exact z.elim
    | false =>
      show wpAny _ X.A (handleBy (.ref a) X.env []) _ _ _
      refine wpAny_handleBy_nil ?_
      obtain ⟨k1, k2, k3, oe, vs, T, oT, ts', he, hz, hd, h1, hr⟩ := id fl3
      unfold PySem.passOn
      refine wpAny_bind (wpAny_field he hd h1 ?_)
      rw [if_neg (show ¬ ((Value.ref T == Value.none) = true) from by simp)]
      have fin : wpAny (model X.prog X.w) X.A (setFlight (.ref a) X.env.frame) (fun _ s4 => wpAny (model X.prog X.w) X.A (throw (.ref a) : Sem Flow) (SP X pins D) X.xe s4) X.xe { s' with heap := h3 } := by
        rw [hf]
        refine HandSPX.setFlight_upZ fl3 fun h4 hh4 up4 => wpAny_throw (tk _ _ ?_)
        exact ⟨a, B, sI, pins, σ', H', cls, d, rfl, J, nb, (up.trans up3).trans up4, .inr (.inr (by rw [hs]; exact hh4)), na, os, ag, hno rfl⟩
      first
        | exact wpAny_bind (wpAny_pure (wpAny_bind fin))
        | exact wpAny_bind fin
  · cases f with
    | next =>
      obtain ⟨σ', H', J', q⟩ := hsp
      exact wpAny_execs_nil ⟨σ', H', J'.ofTry ok, q⟩
    | brk =>
      obtain ⟨σ', H', J', q⟩ := hsp
      exact ⟨σ', H', J'.ofTry ok, q⟩
    | cont =>
      obtain ⟨σ', H', J', q⟩ := hsp
      exact ⟨σ', H', J'.ofTry ok, q⟩
    | ret u =>
      obtain ⟨v, σ', H', J', r, q⟩ := hsp
      exact ⟨v, σ', H', J'.ofTry ok, r, q⟩
end
end Wc

/-! .. in mirrors: isinstance of a kept exception, its name, try. -/
namespace Wc
open PySem PySem.Spec PyProof.Rows L2
def six : List Str := ["BadGear", "BadTooth", "BadNumber", "BadBox", "BadText", "NotFound"]
def isSubX (x c : Str) : Bool := x == c || c == ("WheelError" : Str)
/-- what the classes of the text say -/
structure XF (K : Fg) : Prop where
  exc : ∀ x ∈ six, ExcC K (He.ga K x)
  kit : ∀ x ∈ six, ∀ c ∈ ("WheelError" : Str) :: six, PySem.W.kitOne K (.ref (He.ga K x)) (.ref (He.ga K c)) = some (isSubX x c)
  ve : ∀ x ∈ six, PySem.W.kitOne K (.ref (He.ga K x)) (.type "ValueError") = some true
  exm : ∀ x ∈ six, PySem.W.exmOne K (.ref (He.ga K x)) (.ref (He.ga K "WheelError")) = some true
def excCB (K : Fg) (D : Addr) : Bool :=
  decide (PySem.W.findIn K (.ref D) "__getattribute__" = some (some (.builtin "BaseException.__getattribute__"))) && (decide (PySem.W.findIn K (.ref D) "__getattr__" = some none) && (decide (PySem.W.subIn K (.ref D) (.type "BaseException") = some true) && (PySem.W.hasDictIn K D &&
  (decide (PySem.W.findIn K (.ref D) "__class__" = some (some (.builtin "object.__class__"))) && (decide (PySem.W.specialIn K (.builtin "object.__class__") "__get__" = some (some (.builtin "getset_descriptor.__get__"))) && (decide (PySem.W.takesIn K (.builtin "object.__class__") = some true) && decide (PySem.W.mroIn K D (.type "object") = some true)))))))
theorem excCB_ok {K : Fg} {D : Addr} (h : excCB K D = true) : ExcC K D := by
  unfold excCB at h
  simp only [Bool.and_eq_true, decide_eq_true_eq] at h
  obtain ⟨h1, h2, h3, h4, h5, h6, h7, h8⟩ := h
  exact ⟨h1, h2, h3, h4, h5, h6, h7, h8⟩
def xfB (K : Fg) : Bool := six.all fun x => excCB K (He.ga K x) && ((("WheelError" : Str) :: six).all (fun c => decide (PySem.W.kitOne K (.ref (He.ga K x)) (.ref (He.ga K c)) = some (isSubX x c))) && (decide (PySem.W.kitOne K (.ref (He.ga K x)) (.type "ValueError") = some true) &&
  decide (PySem.W.exmOne K (.ref (He.ga K x)) (.ref (He.ga K "WheelError")) = some true)))
theorem xfB_ok {K : Fg} (h : xfB K = true) : XF K := by
  have key : ∀ x ∈ six, excCB K (He.ga K x) = true ∧ (∀ c ∈ ("WheelError" : Str) :: six, PySem.W.kitOne K (.ref (He.ga K x)) (.ref (He.ga K c)) = some (isSubX x c)) ∧ PySem.W.kitOne K (.ref (He.ga K x)) (.type "ValueError") = some true ∧ PySem.W.exmOne K (.ref (He.ga K x)) (.ref (He.ga K "WheelError")) = some true := by
    intro x hx
    have := List.all_eq_true.mp h x hx
    rw [Bool.and_eq_true, Bool.and_eq_true, Bool.and_eq_true, decide_eq_true_eq, decide_eq_true_eq, List.all_eq_true] at this
    exact ⟨this.1, fun c hc => of_decide_eq_true (this.2.1 c hc), this.2.2.1, this.2.2.2⟩
  exact ⟨fun x hx => excCB_ok (key x hx).1, fun x hx => (key x hx).2.1, fun x hx => (key x hx).2.2.1, fun x hx => (key x hx).2.2.2⟩
/-! ### isinstance(e, C) of a kept exception -/
def rIsX (K : Fg) : List V → Hp → VK → Prop := fun xs H Q => ∃ (a D : Addr) (c : V) (cv : Value) (b : Bool), xs = [.ref a, c] ∧ H a = some (ExK (.ref D) a) ∧ ExcC K D ∧ (∀ u, RelV c u → u = cv) ∧ PySem.W.kitOne K (.ref D) cv = some b ∧ Q (.bl b) H
theorem call_isX {X : Cx} : CallR X (.builtin "isinstance") (rIsX X.K) := by
  intro pins s σ H xs us Q I r h
  obtain ⟨a, D, c, cv, b, rfl, hH, C, hcv, e, q⟩ := h
  cases r with
  | cons rx rr =>
    cases rr with
    | cons rt rr =>
      cases rr
      cases rx
      have ec := hcv _ rt
      subst ec
      obtain ⟨⟨oe, vs, hget, hz, hv⟩, _, _⟩ := I.hok a _ hH
      have J : PySem.W.InstAt s.heap a oe D none := by
        obtain ⟨oc, od, oda, osl⟩ := oe
        obtain ⟨h1, h2⟩ := hz
        dsimp only at h1 h2 hv
        subst h1 h2 hv
        exact ⟨hget, rfl, rfl, trivial⟩
      exact PySem.W.kia_one (PySem.W.handS_kitx_exc C.hg C.hk C.hs C.hd C.ha C.hn C.ht C.hm) I.kIn J e (fun z => nomatch z) fun tk => ⟨.bl b, H, I.kept (t' := tk) fun _ _ z => z, rfl, q⟩
def erC {β : Type} : Cell → (Str → O β) → O β
  | .er x, f => if x ∈ six then f x else .no
  | _, _ => .no
theorem erC_er {β : Type} {x : Str} {f : Str → O β} (h : x ∈ six) : erC (.er x) f = f x := if_pos h
def pIsE (i : Nat) (c : Str) : MP := fun ρ => erC (at_ ρ i) fun x => .ok (.bool (isSubX x c))
def pIsV (i : Nat) : MP := fun ρ => erC (at_ ρ i) fun _ => .ok (.bool true)
section
variable {K : Fg} {E : XS} {i j : Nat}
theorem er_at {B M : Hp} {o : Addr → Option Nat} {σ : L2.St} {ρ : MEnv} {H : Hp} {β : Type} {f : Str → O β} {k : β → Prop} {X : Str → Prop} (R : Rl K B M o σ ρ H) (h : (erC (at_ ρ i) f).go k X) :
    ∃ x a, (f x).go k X ∧ x ∈ six ∧ σ[i]? = some (some (.ref a)) ∧ H a = some (ExK (.ref (He.ga K x)) a) := by
  have hc := R.cell i
  generalize at_ ρ i = c at hc h
  cases c with
  | er x =>
    obtain ⟨a, h1, h2⟩ := hc
    by_cases hx : x ∈ six
    · rw [erC_er hx] at h
      exact ⟨_, a, h, hx, h1, hid_le _ _ h2⟩
    · have : erC (.er x) f = .no := if_neg hx
      rw [this] at h
      exact h.elim
  | _ => exact h.elim
theorem yt_isE (xf : XF K) {c : Str} (hc : c ∈ ("WheelError" : Str) :: six) : YT K E (tCB (rIsX K) (tCons (tVar i) (tCons (tC (.ref (He.ga K c))) tNil))) (pIsE i c) := fun B M o σ ρ H R H1 e1 Q k => by
  obtain ⟨x, a, k, hx, h1, h2⟩ := er_at (R.ex e1) k
  exact ⟨.ref a, h1, a, _, _, _, _, rfl, h2, xf.exc x hx, fun u r => r, xf.kit x hx c hc, k _ H1 ex_rfl (.bl _)⟩
theorem yt_isV (xf : XF K) : YT K E (tCB (rIsX K) (tCons (tVar i) (tCons (tC (.ty "ValueError")) tNil))) (pIsV i) := fun B M o σ ρ H R H1 e1 Q k => by
  obtain ⟨x, a, k, hx, h1, h2⟩ := er_at (R.ex e1) k
  exact ⟨.ref a, h1, a, _, _, .type "ValueError", _, rfl, h2, xf.exc x hx, fun u r => r, xf.ve x hx, k _ H1 ex_rfl (.bl _)⟩
end
/-! ### list.count of bools -/
def rCntB (K : Fg) : V → List V → Hp → VK → Prop := fun x xs H Q => ∃ (p : Addr) (ns : List Bool) (k : Bool), x = .ref p ∧ xs = [.bl k] ∧ SqL K H p (ns.map V.bl) ∧ Q (.int (ns.count k : Nat)) H
def eqbV (k : Bool) (v : Value) : Bool := match v with
  | .bool n => n == k
  | _ => false
theorem mt_countB {X : Cx} : MtR X "list.count" (rCntB X.K) := by
  intro pins s σ H x xs v us Q I rx rxs h
  obtain ⟨p, ns, k, rfl, rfl, hs, q⟩ := h
  cases rx
  obtain ⟨u, rfl, ru⟩ := rxs.one
  cases ru
  obtain ⟨its, rv, ⟨⟨cls, dd, data, sl⟩, n, ho, hc, hdn, hd⟩, hlen⟩ := I.list hs
  simp only at hc hd
  subst hc hd
  have hb := rv.bls
  refine call_meets PySem.F.slot_list_count ⟨_, ho, rfl⟩ PySem.F.entry_list_count (PySem.F.args_list_count_2 _ _)
    (SeqAt.list_countAt p its.toArray n dd sl (.bool k) (eqbV k)) ⟨ho, fun y hy => ?_, ?_⟩
  · have hy' : y ∈ ns.map Value.bool := by rw [← hb]; simpa using hy
    obtain ⟨b, _, rfl⟩ := List.mem_map.mp hy'
    exact SeqAt.EqAt.bool_bool b k
  have ec : its.toArray.toList.countP (eqbV k) = ns.count k := by
    have e : its.toArray.toList = ns.map Value.bool := by simpa using hb
    rw [e, List.countP_map]
    rfl
  refine ⟨.int (ns.count k : Nat), H, I.tok _, ⟨s.toks, ?_⟩, q⟩
  show Value.int ((its.toArray.toList.countP (eqbV k) : Nat) : Int) s.toks = Value.int ((ns.count k : Nat) : Int) s.toks
  rw [ec]
def hCountB : List Dt → List Dt → O Dt
  | ds, [.bool k] => match blsOf ds with
    | some ns => .ok (.int (ns.count k : Nat))
    | none => .no
  | _, _ => .no
section
variable {K : Fg} {E : XS} {te : TE} {tr : TA} {a : MP} {ma : MA} {i j : Nat}
theorem yt_countB (h : YT K E te a) (ha : YA K E tr ma) : YT K E (tBM K "list" (rCntB K) te tr) (pBM hCountB a ma) := yt_bm h ha (fun ds es v vs H Q p2 p3 ke => by
  unfold hCountB at ke
  split at ke
  · split at ke
    · rename_i k _ ns c
      obtain rfl := blsOf_eq c
      obtain ⟨w, r, rfl, q1, q2⟩ := dps_cons p3
      obtain rfl := dps_nil q2
      obtain rfl := dp_bl q1
      obtain ⟨p, xs, rfl, hs, hx⟩ := dp_lst p2
      obtain rfl := of_dps_bls hx
      exact ⟨p, ns, k, rfl, rfl, hs, ke _ H ex_rfl (.int _)⟩
    · exact ke.elim
  · exact ke.elim) fun ds es x => by
    unfold hCountB
    split
    · split <;> nofun
    · nofun
end
/-! ### x is None, the name of the class -/
def nvC : Cell → O Bool
  | .val d => .ok (isNn d)
  | .er _ => .ok false
  | _ => .no
@[simp] theorem nvC_none : nvC (.val .none) = .ok true := rfl
@[simp] theorem nvC_er {x : Str} : nvC (.er x) = .ok false := rfl
def bIsNv (i : Nat) : MB := fun ρ => nvC (at_ ρ i)
abbrev MFE := Str → O Rs
def mkE (n : Nat) (s : MS) : MFE := fun x => toRs (s (.er x :: List.replicate n .no))
def spErr (K : Fg) (m : MFE) : Sp := fun vs H Q _ => ∃ (a : Addr) (x : Str) (d : Dt), vs = [.ref a] ∧ H a = some (ExK (.ref (He.ga K x)) a) ∧ x ∈ six ∧ m x = .ok (.val d) ∧ ∀ v H2, Ex H H2 → Dp K H2 v d → Q v H2
def pErr (m : MFE) (i : Nat) : MP := fun ρ => erC (at_ ρ i) fun x => (m x).nx.bind fun r => match r with
  | .val d => .ok d
  | _ => .no
section
variable {K : Fg} {E : XS} {i j : Nat} {m : MFE}
theorem yb_isNv : YB K E (tTest (tOp (fun x y H Q => y = .non ∧ Q (.bl (decide (x = .non))) H) (tVar i) (tC .non))) (bIsNv i) := fun B M o σ ρ H R H1 e1 Q k => by
  have hc := (R.ex e1).cell i
  unfold bIsNv at k
  generalize at_ ρ i = c at hc k
  cases c with
  | val d =>
    obtain ⟨v, h1, h2⟩ := hc
    refine ⟨v, h1, rfl, _, rfl, ?_⟩
    have e : decide (v = V.non) = isNn d := by
      cases h2 <;> first | rfl | exact decide_eq_false (by nofun)
    rw [e]
    exact k H1 ex_rfl
  | er x =>
    obtain ⟨a, h1, h2⟩ := hc
    refine ⟨_, h1, rfl, _, rfl, ?_⟩
    rw [decide_eq_false (by nofun)]
    exact k H1 ex_rfl
  | _ => exact k.elim
theorem yt_err {E0 : XK} : YT K E (tCall (spErr K m) [] E0 (tCons (tVar i) tNil)) (pErr m i) := fun B M o σ ρ H R H1 e1 Q k => by
  obtain ⟨x, a, k, hx, h1, h2⟩ := er_at (R.ex e1) k
  have k' := O.go_bind.mp k
  cases q : m x with
  | ok r =>
    rw [q] at k'
    cases r with
    | val d => exact ⟨_, h1, a, x, d, rfl, h2, hx, q, fun v H2 e2 p2 => k' v H2 e2 p2⟩
    | new _ => exact k'.elim
    | ob _ _ _ _ => exact k'.elim
  | ex _ => rw [q] at k'; exact k'.elim
  | no => rw [q] at k'; exact k'.elim
end
section
variable {P : Program} {w : World} {K : Fg} {mg : Str → Option Value} {base : Heap}
theorem Df.calE {x : Str} {st : Stmt} {N ps : List Str} {k n : Nat} {s : MS} (Z : Df K mg x st) (S : FnScope N ps (defScope st)) (hps : ps.length = 1)
    (hbi : ∀ (kV doc pm : Value) (an : Option Addr) (cdv ct : Value) (us : List Value), us.length = ps.length → bindArgs (PySem.W.fnOf x x (defArgs st) (defBody st) (defScope st) .none kV doc pm an cdv ct) ⟨us, []⟩ = pure (ps.zip us)) (hn : N.length = n + 1)
    (hbody : ∀ (f : Addr) (cdv : Value) (A : Around) (outer : List PySem.Env) (s0 : Shared) (H : Hp) (E : XK), Room k (A.deeper (envOfC x (defScope st) s0.heap.objs.size f cdv)) →
      ∃ t, PSs (cxOf (L2.CX P w) P w K mg base N x (defScope st) f cdv A outer s0 H E) (defBody st) t ∧ YS K (fun _ => E) t s) : Cal P w K mg base x ps (k + 1) (spErr K (mkE n s)) :=
  Z.cal S hbi (fun vs H Q E ⟨_, _, _, e, _⟩ => by rw [e, hps] <;> rfl) fun f cdv A outer s0 H vs Q E hr ⟨a, x0, d, e, hH, hx, hm, hk⟩ => by
    subst e
    obtain ⟨t, h1, h2⟩ := hbody f cdv A outer s0 H E hr
    refine ⟨t, h1, ?_⟩
    have hh : hid (fun _ => (none : Option Nat)) H = H := by
      funext b
      exact hid_at rfl
    have R : Rl K H H (fun _ => none) (L2.start N [.ref a]) (.er x0 :: List.replicate n .no) H := by
      refine ⟨?_, fun i => ?_, by rw [hh]; exact ex_rfl, fun _ h => h, nofun⟩
      · unfold L2.start
        simp [hn]
      · cases i with
        | zero => exact ⟨a, rfl, by rw [hh]; exact hH⟩
        | succ i =>
          have : at_ (.er x0 :: List.replicate n .no) (i + 1) = .no := by
            rw [at_s]
            unfold at_
            rw [List.getElem?_replicate]
            split <;> rfl
          rw [this]
          trivial
    refine h2 H H _ _ _ H _ R ?_
    unfold mkE at hm
    generalize s (.er x0 :: List.replicate n .no) = z at hm ⊢
    cases z with
    | ret out =>
      cases out with
      | nx ρ =>
        cases hm
        exact fun o σ H' R => hk .non H' (R.keep.trans hid_le) .non
      | rt r' ρ =>
        cases hm
        exact fun o σ H' v R hr => hk v H' (R.keep.trans hid_le) hr
      | bk ρ => cases hm
      | ct ρ => cases hm
    | exc x ρ => cases hm
    | any φ k => cases hm
    | fresh k => cases hm
    | no => cases hm
end
/-! ### try -/
def tryC (i j : Nat) : T Out → T Out
  | .ret o => .ret o
  | .exc x ρ => if x ∈ six then .ret (.nx (((ρ.set i (.er x)).set j (.er x)).set i .no)) else .no
  | .any φ k => .any φ fun d => tryC i j (k d)
  | .fresh k => .fresh fun p q => tryC i j (k p q)
  | .no => .no
@[simp] theorem tryC_ret {i j : Nat} {o : Out} : tryC i j (.ret o) = .ret o := rfl
theorem tryC_exc {i j : Nat} {x : Str} {ρ : MEnv} (h : x ∈ six) : tryC i j (.exc x ρ) = .ret (.nx (((ρ.set i (.er x)).set j (.er x)).set i .no)) := if_pos h
def sTry (i j : Nat) (m : MS) : MS := fun ρ => tryC i j (m ρ)
theorem tryC_all {i j : Nat} {Q : Out → Prop} {X : Str → MEnv → Prop} : ∀ {t : T Out}, (tryC i j t).all Q X → t.all Q (fun x ρ => x ∈ six ∧ Q (.nx (((ρ.set i (.er x)).set j (.er x)).set i .no)))
  | .ret o, h => h
  | .exc x ρ, h => by
    unfold tryC at h
    show x ∈ six ∧ _
    split at h
    · exact ⟨by assumption, h⟩
    · exact h.elim
  | .any φ k, h => fun d hd => tryC_all (h d hd)
  | .fresh k, h => fun p q => tryC_all (h p q)
  | .no, h => h
section
variable {K : Fg} {E : XS} {i j : Nat} {m : MS} {tb : WX → TS} {Wout : WX} {tr : TA} {ma : MA} {mf : MF}
theorem ys_try (xf : XF K) (hb : ∀ W : WX, YS K (fun σ => WE W σ) (tb W) m) : YS K E (fun D σ H => tb (wKeep K (.ref (He.ga K "WheelError")) i j Wout D) D σ H) (sTry i j m) := fun B M o σ ρ H D R k =>
  hb _ B M o σ ρ H D R (T.all_mono (fun _ z => z) (fun x ρ' ⟨hx, z⟩ o' σ' H' R' => ⟨true, xf.exm x hx, fun _ => ⟨rfl, fun a ha => by
    have oa : o' a = none := R'.fresh ha
    have Rn : Rl K B M o' σ' ρ' (L2.upd H' a (ExK (.ref (He.ga K x)) a)) := R'.ex (Evl.Ex.new ha)
    have he : hid o' (L2.upd H' a (ExK (.ref (He.ga K x)) a)) a = some (ExK (.ref (He.ga K x)) a) := hid_new oa
    have R1 := Rn.set (i := i) (s := some (.ref a)) (c := .er x) ⟨a, rfl, he⟩
    have R2 := R1.set (i := j) (s := some (.ref a)) (c := .er x) ⟨a, rfl, he⟩
    have R3 := R2.set (i := i) (s := none) (c := .no) trivial
    exact z o' _ _ R3⟩, nofun⟩) (tryC_all k))
theorem yt_callS (ha : YA K E tr ma) : YT K E (tCallS (spF K (FM mf)) E tr) (pCall mf ma) := fun B M o σ ρ H R H1 e1 Q k =>
  ha B M o σ ρ H R H1 e1 _ (O.go_mono (O.go_bind.mp k) (fun ds kx vs H2 e2 p2 => by
    cases q : mf ds with
    | ok r =>
      rw [q] at kx
      cases r with
      | val d => exact ⟨ds, .val d, p2, by unfold FM; rw [q], fun v H3 e3 p3 => kx v H3 (e2.trans e3) p3⟩
      | new es => exact ⟨ds, .new es, p2, by unfold FM; rw [q], fun p xs H3 hp e3 h3 p3 => kx _ H3 (e2.trans e3) (Dp.lst (SqL.of h3) p3)⟩
      | ob _ _ _ _ => exact kx.elim
    | ex x =>
      rw [q] at kx
      exact ⟨ds, .exc x, p2, by unfold FM; rw [q], fun H3 e3 => kx H3 (e2.trans e3)⟩
    | no => rw [q] at kx; exact kx.elim) fun _ z => z)
theorem yn_callS (ha : YA K E tr ma) : YN K E (tCallS (spF K (FM mf)) E tr) (pCallN mf ma) := fun B M o σ ρ H R H1 e1 Q k =>
  ha B M o σ ρ H R H1 e1 _ (O.go_mono (O.go_bind.mp k) (fun ds kx vs H2 e2 p2 => by
    cases q : mf ds with
    | ok r =>
      rw [q] at kx
      cases r with
      | val d => exact kx.elim
      | new es => exact ⟨ds, .new es, p2, by unfold FM; rw [q], fun p xs H3 hp e3 h3 p3 => kx _ H3 (e2.trans e3) ⟨p, xs, es, rfl, rfl, Evl.fresh_back e2 hp, h3, p3⟩⟩
      | ob _ _ _ _ => exact kx.elim
    | ex x =>
      rw [q] at kx
      exact ⟨ds, .exc x, p2, by unfold FM; rw [q], fun H3 e3 => kx H3 (e2.trans e3)⟩
    | no => rw [q] at kx; exact kx.elim) fun _ z => z)
end
theorem pe_calS {X : Cx} {x : Str} {ps : List Str} {k : Nat} {sp : Sp} {E : L2.St → XK} {e : Expr} {es : List Expr} {t : TA} {p pos : Pos} (C : Cal X.prog X.w X.K X.mg X.base x ps k sp) (hr : Room k X.A) (hx : ∀ σ, PassesAt (L2.CX X.prog X.w) X σ (E σ)) (ha : PA X (e :: es) t)
    (hg : Gl X x := by rfl) (hdb : (x == ("__debug__" : Str)) = false := by decide) (he : starEach (e :: es) X.env = (false, eval e X.env) :: starEach es X.env := by rfl) (hpl : (backTo pos (starEach es X.env)).any (·.1) = false := by rfl) :
    PE X (.Call (.Name x p) (e :: es) [] pos) (tCallS sp E t) := by
  obtain ⟨f, fd, F, hm, hk, hb⟩ := C.ex
  exact pe_callS F hr hg hm hk hb hx ha hdb he hpl
theorem op_inDK {X : Cx} {K : Fg} (hu : X.A.units + 65 < cLine) (hK : X.K = K) : OpR X (compareOp .In) (rInD K) := by
  subst hK
  exact op_inD hu
theorem op_niDK {X : Cx} {K : Fg} (hu : X.A.units + 65 < cLine) (hK : X.K = K) : OpR X (compareOp .NotIn) (rNotInD K) := by
  subst hK
  exact op_notInD hu
theorem sl_listK {X : Cx} {K : Fg} (hK : X.K = K) : SlR X (rSlL K) := by
  subst hK
  exact sl_list
theorem mt_indexDK {X : Cx} {K : Fg} (hu : X.A.units + 65 < cLine) (hK : X.K = K) : MtR X "list.index" (rIndexD K) := by
  subst hK
  exact mt_indexD hu
/-! ### the head's facts, with one more Bool -/
def obsB (n : Nat) (xb : Fg → Bool) (fa : List He.Fa) (fn : List He.DefD) (g : Addr → Option Obj) : Bool × He.AlD := (xb (He.frG g (He.asD g n)), He.obsDG n fa fn g)
structure SaysB (xb : Fg → Bool) (fa : List He.Fa) (fn : List He.DefD) (K : Fg) : Prop where
  x : xb K = true
  d : He.SaysD fa fn K
def hookB (n : Nat) (xb : Fg → Bool) (fa : List He.Fa) (fn : List He.DefD) : PySem.W.Hook where
  α := Bool × He.AlD
  obs := fun s => obsB n xb fa fn s.heap.get?
  val := fun _ => (true, He.valD fn)
  says := fun _ h => ∃ K : Fg, K.In h ∧ SaysB xb fa fn K
  of := fun _ _ e => ⟨_, He.frG_in, congrArg Prod.fst e, congrArg Prod.snd e⟩
  keeps := fun _ _ _ ⟨K, hK, c⟩ k => ⟨K, PySem.W.Frag.In.keeps hK k, c⟩
theorem obsB_eq {n : Nat} {xb : Fg → Bool} {fa : List He.Fa} {fn : List He.DefD} {g : Addr → Option Obj} {s : Shared} (h : ∀ a, g a = s.heap.get? a) : obsB n xb fa fn g = (hookB n xb fa fn).obs s := by
  have e : g = s.heap.get? := funext h
  rw [e] <;> rfl
/-! ### rules for simp -/
theorem sTry_e {i j : Nat} {m : MS} {ρ : MEnv} : sTry i j m ρ = tryC i j (m ρ) := rfl
theorem bIsNv_e {i : Nat} {ρ : MEnv} : bIsNv i ρ = nvC (at_ ρ i) := rfl
theorem pErr_e {m : MFE} {i : Nat} {ρ : MEnv} : pErr m i ρ = erC (at_ ρ i) fun x => (m x).nx.bind fun r => match r with
  | .val d => .ok d
  | _ => .no := rfl
theorem nvC_val {d : Dt} : nvC (.val d) = .ok (isNn d) := rfl
theorem nvC_int {i : Int} : nvC (.val (.int i)) = .ok false := rfl
def evt := And.intro @sTry_e (And.intro @bIsNv_e (And.intro @nvC_none (And.intro @nvC_er @tryC_ret)))
theorem six_gear : ("BadGear" : Str) ∈ six := by decide +kernel
theorem six_tooth : ("BadTooth" : Str) ∈ six := by decide +kernel
theorem six_number : ("BadNumber" : Str) ∈ six := by decide +kernel
theorem six_box : ("BadBox" : Str) ∈ six := by decide +kernel
theorem six_text : ("BadText" : Str) ∈ six := by decide +kernel
theorem six_none : ("NotFound" : Str) ∈ six := by decide +kernel
end Wc

/-! WmK: more of the rules, with the fragment told. -/
namespace Wc
open PySem PySem.Spec PyProof.Rows L2
theorem mt_lcountK {X : Cx} {K : Fg} (hK : X.K = K) : MtR X "list.count" (rCntI K) := by
  subst hK
  exact mt_lcount
theorem pe_bmK {X : Cx} {K : Fg} (hK : X.K = K) {T id : String} {name : Str} {r : V → List V → Hp → VK → Prop} {o e : Expr} {es : List Expr} {to : TE} {t : TA} {apos cpos : Pos} (pa : PlainAttrs T) (slot : Slot T name id) (hty : typeOf (.builtin id) = pure (.type "method_descriptor")) (hm : MtR X id r) (ho : PE X o to) (ha : PA X (e :: es) t)
    (hbase : attributeBase o name X.env (eval o X.env) = eval o X.env := by rfl)
    (hfew : ((backTo cpos (starEach (e :: es) X.env)).all (fun x => !x.1) && (backToKw cpos (keywordEach [] X.env)).all (fun x => x.1.isSome)
      && decide ((e :: es).length + ([] : List Keyword).length + (if ([] : List Keyword).isEmpty then 0 else 1) < 30)) = true := by rfl)
    (hline : (apos.endLine == cpos.line) = true := by rfl) (hs : starEach (e :: es) X.env = (false, eval e X.env) :: starEach es X.env := by rfl) (hplain : (backTo cpos (starEach es X.env)).any (·.1) = false := by rfl) :
    PE X (.Call (.Attribute o name apos) (e :: es) [] cpos) (tBM K T r to t) := by
  subst hK
  exact pe_bm pa slot hty hm ho ha hbase hfew hline hs hplain
theorem pe_lenSetK {X : Cx} {K : Fg} (hK : X.K = K) {a : Expr} {ta : TE} {p p2 q pos : Pos} (hc : X.calm = true) (hg : Gl X "len") (hm : X.mg "len" = none) (hg2 : Gl X "set") (hm2 : X.mg "set" = none) (ha : PE X a ta)
    (na : starEach [a] X.env = (false, eval a X.env) :: starEach [] X.env := by rfl) : PE X (.Call (.Name "len" p) [.Call (.Name "set" p2) [a] [] q] [] pos) (tLenSet K ta) := by
  subst hK
  exact pe_lenSet hc hg hm hg2 hm2 ha na
theorem pe_sortedSetK {X : Cx} {K : Fg} (hK : X.K = K) {a : Expr} {ta : TE} {p p2 q pos : Pos} (hc : X.calm = true) (hg : Gl X "sorted") (hm : X.mg "sorted" = none) (hg2 : Gl X "set") (hm2 : X.mg "set" = none) (ha : PE X a ta)
    (na : starEach [a] X.env = (false, eval a X.env) :: starEach [] X.env := by rfl) : PE X (.Call (.Name "sorted" p) [.Call (.Name "set" p2) [a] [] q] [] pos) (tSortedSet K ta) := by
  subst hK
  exact pe_sortedSet hc hg hm hg2 hm2 ha na
theorem cr_sumK' {X : Cx} {K : Fg} (hK : X.K = K) (hc : X.calm = true) : CallR X (.builtin "sum") (rSum K) := by
  subst hK
  exact cr_sum hc
theorem cr_maxK' {X : Cx} {K : Fg} (hK : X.K = K) (hc : X.calm = true) : CallR X (.builtin "max") (rMax K) := by
  subst hK
  exact cr_max hc
theorem cr_minK' {X : Cx} {K : Fg} (hK : X.K = K) (hc : X.calm = true) : CallR X (.builtin "min") (rMin K) := by
  subst hK
  exact cr_min hc
theorem cr_anyK' {X : Cx} {K : Fg} (hK : X.K = K) (hc : X.calm = true) : CallR X (.builtin "any") (rAny K) := by
  subst hK
  exact cr_any hc
theorem cr_allK' {X : Cx} {K : Fg} (hK : X.K = K) (hc : X.calm = true) : CallR X (.builtin "all") (rAll K) := by
  subst hK
  exact cr_all hc
theorem cr_sortedIK' {X : Cx} {K : Fg} (hK : X.K = K) : CallR X (.builtin "sorted") (rSortedI K) := by
  subst hK
  exact cr_sortedI
/-! ### range with a step -/
theorem rngSize_pos {l m c : Int} (hc : 0 < c) : Builtin.Range.rangeSize l m c = (((m - l + c - 1) / c).toNat : Int) := by
  unfold Builtin.Range.rangeSize
  rw [if_pos hc]
  split
  · have e : m - l + c - 1 = (m - l - 1) + 1 * c := by omega
    rw [e, Int.add_mul_ediv_right _ _ (by omega)]
    have := Int.ediv_nonneg (show 0 ≤ m - l - 1 by omega) (show 0 ≤ c by omega)
    omega
  · have : (m - l + c - 1) / c ≤ 0 := by
      have := Int.ediv_lt_of_lt_mul hc (show m - l + c - 1 < 1 * c by omega)
      omega
    omega
theorem rgC_pos {l m c : Int} (h : -10000000 ≤ l ∧ l ≤ 10000000 ∧ -10000000 ≤ m ∧ m ≤ 10000000 ∧ 0 < c ∧ c ≤ 10000000) : RgC l m c ((m - l + c - 1) / c).toNat := by
  obtain ⟨h1, h2, h3, h4, h5, h6⟩ := h
  have e := rngSize_pos (l := l) (m := m) h5
  refine ⟨by omega, by omega, ?_, e⟩
  have b0 : ((m - l + c - 1) / c).toNat ≤ 40000000 := by
    have := Int.ediv_le_self (a := (m - l + c - 1).natAbs) c (by omega)
    have h7 : (m - l + c - 1) / c ≤ ((m - l + c - 1).natAbs : Int) / c := Int.ediv_le_ediv h5 (by omega)
    omega
  unfold Builtin.Range.small
  rw [e]
  simp only [Builtin.Range.rangeFitsLong, Bool.and_eq_true, Bool.or_eq_true, decide_eq_true_eq, beq_iff_eq, h5, if_true]
  omega
section
variable {K : Fg} {E : XS} {ta tb tc : TE} {a b c : MP}
theorem yi_r3 (h : YT K E ta a) (h' : YT K E tb b) (h'' : YT K E tc c) : YI K E (iRng3 (tCons ta (tCons tb (tCons tc tNil)))) (iR3 a b c) := fun B M o σ ρ H R H1 e1 Q k => h B M o σ ρ H R H1 e1 _ (O.go_mono (O.go_bind.mp k) (fun d kd v H2 e2 p2 => h' B M o σ ρ H R H2 (e1.trans e2) _ (O.go_mono (O.go_bind.mp kd) (fun e ke u H3 e3 p3 => h'' B M o σ ρ H R H3 ((e1.trans e2).trans e3) _ (O.go_mono (O.go_bind.mp ke) (fun f kf t H4 e4 p4 => by
  split at kf
  · split at kf
    · rename_i l m c hm
      obtain rfl := dp_int p2
      obtain rfl := dp_int p3
      obtain rfl := dp_int p4
      exact ⟨l, m, c, _, rfl, rgC_pos hm, kf _ H4 ((e2.trans e3).trans e4) srcF_rngC⟩
    · exact kf.elim
  · exact kf.elim) fun x z H4 e4 => z H4 ((e2.trans e3).trans e4))) fun x z H3 e3 => z H3 (e2.trans e3))) fun _ z => z)
end
def rng3K (d e f : Dt) : O (List Dt) := match d, e, f with
  | .int l, .int m, .int c => if -10000000 ≤ l ∧ l ≤ 10000000 ∧ -10000000 ≤ m ∧ m ≤ 10000000 ∧ 0 < c ∧ c ≤ 10000000 then .ok (rngC l c ((m - l + c - 1) / c).toNat) else .no
  | _, _, _ => .no
theorem iR3_e {a b c : MP} {ρ : MEnv} : iR3 a b c ρ = (a ρ).bind fun d => (b ρ).bind fun e => (c ρ).bind fun f => rng3K d e f := rfl
theorem rng3K_i {l m c : Int} (h : -10000000 ≤ l ∧ l ≤ 10000000 ∧ -10000000 ≤ m ∧ m ≤ 10000000 ∧ 0 < c ∧ c ≤ 10000000) : rng3K (.int l) (.int m) (.int c) = .ok (rngC l c ((m - l + c - 1) / c).toNat) := if_pos h
end Wc

/-! WmL: a class with a dict, its methods, in mirrors. -/
namespace Wc
open PySem PySem.Spec PyProof.Rows L2
abbrev dC (K : Fg) : Addr := He.ga K "Drawing"
/-- what the class gives -/
structure DrwF (K : Fg) : Prop where
  cls : Cls K (dC K)
  mkr : Mk K (dC K) (He.ma K (dC K) "__init__")
  gear : NoAttr K (dC K) "gear"
  start : NoAttr K (dC K) "start"
  steps : NoAttr K (dC K) "steps"
  past : NoAttr K (dC K) "past"
/-- a method as it stands -/
def Dm (K : Fg) (C m qual : Str) (st : Stmt) : Prop := ∃ fd : FuncData, FunD K m qual (defArgs st) (defBody st) (defScope st) [] [] (He.ma K (He.ga K C) m) fd
/-- a method's promise -/
structure MCal (P : Program) (w : World) (K : Fg) (mg : Str → Option Value) (base : Heap) (C m : Str) (ps : List Str) (k : Nat) (sp : Sp) : Prop where
  ex : ∃ fd : FuncData, FnOk P w K mg base (L2.CX P w) k (He.ma K (He.ga K C) m) fd ps sp ∧ Binds K fd ps []
theorem Dm.cal {P : Program} {w : World} {K : Fg} {mg : Str → Option Value} {base : Heap} {C m qual : Str} {st : Stmt} {N ps : List Str} {k : Nat} {sp : Sp} (F : Dm K C m qual st) (S : FnScope N ps (defScope st))
    (hbi : ∀ (kV doc pm : Value) (an : Option Addr) (cdv ct : Value) (us : List Value), us.length = ps.length → bindArgs (PySem.W.fnOf m qual (defArgs st) (defBody st) (defScope st) .none kV doc pm an cdv ct) ⟨us, []⟩ = pure (ps.zip us))
    (len : ∀ vs H Q E, sp vs H Q E → vs.length = ps.length)
    (hbody : ∀ (f : Addr) (cdv : Value) (A : Around) (outer : List Env) (s : Shared) (H : Hp) (vs : List V) (Q : VK) (E : XK), Room k (A.deeper (envOfC qual (defScope st) s.heap.objs.size f cdv)) → sp vs H Q E →
      ∃ t, PSs (cxOf (L2.CX P w) P w K mg base N qual (defScope st) f cdv A outer s H E) (defBody st) t ∧ t { nx := fun _ H' => Q .non H', rt := Q } (start N vs) H) : MCal P w K mg base C m ps (k + 1) sp := by
  obtain ⟨fd, F⟩ := F
  exact ⟨fd, F.ok S len fun cdv A outer s H vs Q E hr h => hbody _ cdv A outer s H vs Q E hr h, F.bindsN hbi⟩
structure Mth (P : Program) (w : World) (K : Fg) (mg : Str → Option Value) (base : Heap) (C m : Str) (ps : List Str) (k : Nat) (sp : Sp) : Prop where
  cal : MCal P w K mg base C m ps k sp
  cls : Cls K (He.ga K C)
  at_ : Meth K (He.ga K C) m (He.ma K (He.ga K C) m)
structure New (P : Program) (w : World) (K : Fg) (mg : Str → Option Value) (base : Heap) (C : Str) (ps : List Str) (k : Nat) (sp : Sp) : Prop where
  cal : MCal P w K mg base C "__init__" ps k sp
  mkr : Mk K (He.ga K C) (He.ma K (He.ga K C) "__init__")
  glo : mg C = some (.ref (He.ga K C))
section
variable {X : Cx} {m : Str} {ps : List Str} {k : Nat} {sp : Sp} {E : XK} {o e : Expr} {es : List Expr} {ta : TE} {t : TA} {pos apos p : Pos} {C : Str}
theorem pe_mth {pl : Sem Bool} (Q : Mth X.prog X.w X.K X.mg X.base C m ps k sp) (hr : Room k X.A) (hx : Passes (L2.CX X.prog X.w) X E) (he : PE X o ta) (ha : PA X (e :: es) t)
    (hst : starEach (e :: es) X.env = (false, eval e X.env) :: starEach es X.env := by rfl) (hpl : (backTo pos (starEach es X.env)).any (·.1) = false := by rfl)
    (ht : eval (.Call (.Attribute o m apos) (e :: es) [] pos) X.env = (do
      let ov ← eval o X.env
      standAt apos.atName
      let (f, first) ← holding [ov] (getMethod ov m pl)
      callWith pos f first (backTo pos (starEach (e :: es) X.env)) (backToKw pos (keywordEach [] X.env))) := by rfl) :
    PE X (.Call (.Attribute o m apos) (e :: es) [] pos) (tMeth (He.ga X.K C) m sp [] E ta t) := by
  obtain ⟨fd, F, hb⟩ := Q.cal.ex
  exact pe_meth he Q.cls Q.at_ F hr hb .nil hx ha hst hpl ht
theorem pe_mth0 {pl : Sem Bool} (Q : Mth X.prog X.w X.K X.mg X.base C m ps k sp) (hr : Room k X.A) (hx : Passes (L2.CX X.prog X.w) X E) (he : PE X o ta)
    (ht : eval (.Call (.Attribute o m apos) [] [] pos) X.env = (do
      let ov ← eval o X.env
      standAt apos.atName
      let (f, first) ← holding [ov] (getMethod ov m pl)
      callWith pos f first (backTo pos (starEach [] X.env)) (backToKw pos (keywordEach [] X.env))) := by rfl) :
    PE X (.Call (.Attribute o m apos) [] [] pos) (tMeth (He.ga X.K C) m sp [] E ta tNil) := by
  obtain ⟨fd, F, hb⟩ := Q.cal.ex
  exact pe_meth0 he Q.cls Q.at_ F hr hb .nil hx ht
theorem pe_new' (N : New X.prog X.w X.K X.mg X.base C ps k sp) (hr : Room (k + 1) X.A) (hx : Passes (L2.CX X.prog X.w) X E) (ha : PA X (e :: es) t) (hg : Gl X C := by rfl) (hdb : (C == ("__debug__" : Str)) = false := by decide)
    (he : starEach (e :: es) X.env = (false, eval e X.env) :: starEach es X.env := by rfl) (hpl : (backTo pos (starEach es X.env)).any (·.1) = false := by rfl) : PE X (.Call (.Name C p) (e :: es) [] pos) (tMake (He.ga X.K C) sp [] E t) := by
  obtain ⟨fd, F, hb⟩ := N.cal.ex
  exact pe_make N.mkr F hr hg N.glo hb .nil hx ha hdb he hpl
end
/-! .. within a try -/
def tryB (b : List Stmt) (j : Nat) : List Stmt := match b.getD j (.Pass ⟨0, 0, 0, 0⟩) with
  | .Try b _ _ _ _ => b
  | _ => []
def tMethS (C : Addr) (m : Str) (sp : Sp) (E : L2.St → XK) (ta : TE) (t : TA) : TE := fun σ H Q => ta σ H fun x H1 => ∃ (a dx : Addr) (fs : List (Str × V)), x = .ref a ∧ H1 a = some (.ins C dx fs) ∧ fs.lookup m = none ∧ t σ H1 fun vs H2 => sp (x :: vs) H2 Q (E σ)
section
variable {X : Cx} {m : Str} {ps : List Str} {k : Nat} {sp : Sp} {E : L2.St → XK} {o e : Expr} {es : List Expr} {ta : TE} {t : TA} {pos apos p : Pos} {C : Str}
theorem pe_mthS {pl : Sem Bool} {K : Fg} (hK : X.K = K) (M : Mth X.prog X.w X.K X.mg X.base C m ps k sp) (hr : Room k X.A) (hx : ∀ σ, PassesAt (L2.CX X.prog X.w) X σ (E σ)) (he : PE X o ta) (ha : PA X (e :: es) t)
    (hst : starEach (e :: es) X.env = (false, eval e X.env) :: starEach es X.env := by rfl) (hpl : (backTo pos (starEach es X.env)).any (·.1) = false := by rfl)
    (ht : eval (.Call (.Attribute o m apos) (e :: es) [] pos) X.env = (do
      let ov ← eval o X.env
      standAt apos.atName
      let (f, first) ← holding [ov] (getMethod ov m pl)
      callWith pos f first (backTo pos (starEach (e :: es) X.env)) (backToKw pos (keywordEach [] X.env))) := by rfl) :
    PE X (.Call (.Attribute o m apos) (e :: es) [] pos) (tMethS (He.ga K C) m sp E ta t) := by
  subst hK
  obtain ⟨fd, F, hb⟩ := M.cal.ex
  refine ⟨fun pins s σ H Q I h => ?_⟩
  refine PySem.W.methodCall_KW (pl := pl) (thn (he.run pins s σ H _ I h) fun u s1 ⟨x, H1, I1, rx, a, dx, fs, ex, ea, l, q⟩ => ?_) ht
  subst ex
  obtain rfl : u = Value.ref a := rx
  refine getmeth_ok I1 ea M.cls M.at_ l ?_
  refine PySem.W.callWith_K (first := [.ref a]) (h₀ := X.base) I.ok.mod.kin M.at_.kp (thn (ha.run pos pins s1 σ H1 _ I1 q) fun us s2 ⟨vs, H2, I2, r, q2⟩ => ⟨I2.kIn, ?_⟩) hst hpl
  exact run_fnS (us := .ref a :: us) (vs := .ref a :: vs) F hr hb (hx σ) I2 (.cons rfl r) q2
theorem pe_mthS0 {pl : Sem Bool} {K : Fg} (hK : X.K = K) (M : Mth X.prog X.w X.K X.mg X.base C m ps k sp) (hr : Room k X.A) (hx : ∀ σ, PassesAt (L2.CX X.prog X.w) X σ (E σ)) (he : PE X o ta)
    (ht : eval (.Call (.Attribute o m apos) [] [] pos) X.env = (do
      let ov ← eval o X.env
      standAt apos.atName
      let (f, first) ← holding [ov] (getMethod ov m pl)
      callWith pos f first (backTo pos (starEach [] X.env)) (backToKw pos (keywordEach [] X.env))) := by rfl) :
    PE X (.Call (.Attribute o m apos) [] [] pos) (tMethS (He.ga K C) m sp E ta tNil) := by
  subst hK
  obtain ⟨fd, F, hb⟩ := M.cal.ex
  refine ⟨fun pins s σ H Q I h => ?_⟩
  refine PySem.W.methodCall_KW (pl := pl) (thn (he.run pins s σ H _ I h) fun u s1 ⟨x, H1, I1, rx, a, dx, fs, ex, ea, l, q⟩ => ?_) ht
  subst ex
  obtain rfl : u = Value.ref a := rx
  refine getmeth_ok I1 ea M.cls M.at_ l ?_
  exact PySem.W.callWith_K0 (first := [.ref a]) I1.kIn M.at_.kp (run_fnS (us := [.ref a]) (vs := [.ref a]) F hr hb (hx σ) I1 (.cons rfl .nil) q)
end
/-! ### a drawing on the heap -/
abbrev obF (gv : V) (st : Int) (a1 a2 : Addr) : List (Str × V) := [("gear", gv), ("start", .int st), ("steps", .ref a1), ("past", .ref a2)]
structure ObH (K : Fg) (H : Hp) (a dx a1 a2 : Addr) (gv : V) (g : Dt) (st : Int) (sp ps : List Int) : Prop where
  ins : H a = some (.ins (dC K) dx (obF gv st a1 a2))
  own : H dx = some (.own a)
  l1 : H a1 = some (.lst (sp.map .int))
  l2 : H a2 = some (.lst (ps.map .int))
  ne : a1 ≠ a2
  gear : Dp K H gv g
theorem ObH.ex {K : Fg} {H H' : Hp} {a dx a1 a2 : Addr} {gv : V} {g : Dt} {st : Int} {sp ps : List Int} (e : Ex H H') (h : ObH K H a dx a1 a2 gv g st sp ps) : ObH K H' a dx a1 a2 gv g st sp ps :=
  ⟨e _ _ h.ins, e _ _ h.own, e _ _ h.l1, e _ _ h.l2, h.ne, dp_ex e h.gear⟩
/-- what a method gives: a value, the steps, the past -/
abbrev MO := Dt → Int → List Int → List Int → List Dt → O (Rs × List Int × List Int)
def RsOk (K : Fg) (H H' : Hp) (v : V) : Rs → Prop
  | .val d => Dp K H' v d
  | .new ds => ∃ p xs, v = .ref p ∧ H p = none ∧ H' p = some (.lst xs) ∧ DpAll K H' xs ds
  | .ob .. => False
def spO (K : Fg) (F : MO) : Sp := fun vs H Q E => ∃ (a : Addr) (us : List V) (dx a1 a2 : Addr) (gv : V) (g : Dt) (st : Int) (sp ps : List Int) (ds : List Dt), vs = .ref a :: us ∧ ObH K H a dx a1 a2 gv g st sp ps ∧ DpAll K H us ds ∧
  (F g st sp ps ds).go (fun r => ∀ v H', Exd a1 a2 H H' → H' a1 = some (.lst (r.2.1.map .int)) → H' a2 = some (.lst (r.2.2.map .int)) → RsOk K H H' v r.1 → Q v H') (fun x => ∀ H', Ex H H' → E (.ref (He.ga K x)) none H')
/-- a new drawing -/
abbrev MI' := List Dt → O (Dt × Int)
def spInit (K : Fg) (F : MI') : Sp := fun vs H Q E => ∃ (x dx : Addr) (us : List V) (ds : List Dt), vs = .ref x :: us ∧ H x = some (.ins (dC K) dx []) ∧ H dx = some (.own x) ∧ DpAll K H us ds ∧
  (F ds).go (fun r => ∀ H' a1 a2 gv, ObH K H' x dx a1 a2 gv r.1 r.2 [0] [] → H a1 = none → H a2 = none → (∀ b u, b ≠ x → H b = some u → H' b = some u) → Dp K H gv r.1 → Q .non H') (fun y => ∀ H', Ex H H' → E (.ref (He.ga K y)) none H')
/-! ### a drawing of ours -/
theorem ob_at {K : Fg} {i : Nat} {B M : Hp} {o : Addr → Option Nat} {σ : L2.St} {ρ : MEnv} {H : Hp} {a : Addr} {g : Dt} {st : Int} {sp ps : List Int} (R : Rl K B M o σ ρ H) (h : at_ ρ i = .ob a g st sp ps) :
    σ[i]? = some (some (.ref a)) ∧ ∃ dx a1 a2 gv, ObH K H a dx a1 a2 gv g st sp ps ∧ Dp K (hid o H) gv g ∧ noLst g = true ∧ o a = some i ∧ o dx = some i ∧ o a1 = some i ∧ o a2 = some i := by
  have hc := R.cell i
  rw [h] at hc
  obtain ⟨h1, dx, a1, a2, gv, z1, z2, z3, z4, z5, z6, z7, z8⟩ := hc
  exact ⟨h1, dx, a1, a2, gv, ⟨z1, z2, z3, z4, z5, dp_ex hid_le z6⟩, z6, z7, z8⟩
theorem at_setO {ρ : MEnv} {i j : Nat} {c : Cell} (h : i < ρ.length) : at_ (ρ.set i c) j = if j = i then c else at_ ρ j := by
  unfold at_
  by_cases e : j = i
  · subst e
    rw [if_pos rfl, List.getElem?_set_self h] <;> rfl
  · rw [if_neg e, List.getElem?_set_ne (Ne.symm e)]
theorem ob_step {K : Fg} {i : Nat} {B M : Hp} {o : Addr → Option Nat} {σ : L2.St} {ρ : MEnv} {H H2 : Hp} {a dx a1 a2 : Addr} {gv : V} {g : Dt} {st : Int} {sp ps sp' ps' : List Int} (R : Rl K B M o σ ρ H) (hs : σ[i]? = some (some (.ref a))) (ho : ObH K H a dx a1 a2 gv g st sp ps) (hg : Dp K (hid o H) gv g) (hn : noLst g = true)
    (o0 : o a = some i) (o1 : o dx = some i) (o2 : o a1 = some i) (o3 : o a2 = some i) (e : Exd a1 a2 H H2) (l1 : H2 a1 = some (.lst (sp'.map .int))) (l2 : H2 a2 = some (.lst (ps'.map .int))) :
    Rl K B M o σ (ρ.set i (.ob a g st sp' ps')) H2 ∧ Ex (hid o H) (hid o H2) := by
  have eh : Ex (hid o H) (hid o H2) := fun b u ha => by
    obtain ⟨z1, z2⟩ := hid_of ha
    rw [hid_at z1]
    exact e b u (fun z => by rw [z, o2] at z1; cases z1) (fun z => by rw [z, o3] at z1; cases z1) z2
  have oth : ∀ {b : Addr} {j : Nat} {u : HO}, o b = some j → j ≠ i → H b = some u → H2 b = some u := fun ha hj hu => e _ _ (fun z => by rw [z, o2] at ha; exact hj (Option.some.inj ha).symm) (fun z => by rw [z, o3] at ha; exact hj (Option.some.inj ha).symm) hu
  have na : a ≠ a1 := fun z => by
    have := ho.ins
    rw [z, ho.l1] at this
    cases this
  have na' : a ≠ a2 := fun z => by
    have := ho.ins
    rw [z, ho.l2] at this
    cases this
  have nd : dx ≠ a1 := fun z => by
    have := ho.own
    rw [z, ho.l1] at this
    cases this
  have nd' : dx ≠ a2 := fun z => by
    have := ho.own
    rw [z, ho.l2] at this
    cases this
  have hi : i < ρ.length := by
    rw [R.len]
    exact (List.getElem?_eq_some_iff.mp hs).1
  refine ⟨⟨by rw [List.length_set]; exact R.len, fun j => ?_, fun b u h => eh b u (R.keep b u h), fun b h => R.base b ?_, fun b j h => ?_⟩, eh⟩
  · rw [at_setO hi]
    by_cases hj : j = i
    · subst hj
      rw [if_pos rfl]
      exact ⟨hs, dx, a1, a2, gv, e _ _ na na' ho.ins, e _ _ nd nd' ho.own, l1, l2, ho.ne, dp_ex eh hg, hn, o0, o1, o2, o3⟩
    · rw [if_neg hj]
      have hc := R.cell j
      generalize at_ ρ j = c at hc ⊢
      cases c with
      | no => trivial
      | val d =>
        obtain ⟨v, z1, z2⟩ := hc
        exact ⟨v, z1, dp_ex eh z2⟩
      | tl ds =>
        obtain ⟨p', xs, z1, z2, z3⟩ := hc
        exact ⟨p', xs, z1, eh _ _ z2, dps_ex eh z3⟩
      | own ds =>
        obtain ⟨p', xs, z1, z2, z3, z4, z5, z6⟩ := hc
        exact ⟨p', xs, z1, z2, z3, oth z2 hj z4, z5, dps_ex eh z6⟩
      | dr p' q' =>
        obtain ⟨z1, z2, z3, y0, c0, ns, y1, y2, y3⟩ := hc
        exact ⟨z1, z2, z3, y0, c0, ns, oth z2 hj y1, oth z3 hj y2, y3⟩
      | ob a' g st sp ps =>
        obtain ⟨z0, dx, a1, a2, gv, z1, z2, z3, z4, z5, z6, z6', z7, z8, z9, z10⟩ := hc
        exact ⟨z0, dx, a1, a2, gv, oth z7 hj z1, oth z8 hj z2, oth z9 hj z3, oth z10 hj z4, z5, dp_ex eh z6, z6', z7, z8, z9, z10⟩
      | er x =>
        obtain ⟨a, z1, z2⟩ := hc
        exact ⟨a, z1, eh _ _ z2⟩
      | ll dss =>
        obtain ⟨p', rs, z1, z2, z3, z4, z5, z6, z7, z8⟩ := hc
        refine ⟨p', rs, z1, z2, z3, oth z2 hj z4, z5, z6, z7, fun k r ds hr hd => ?_⟩
        obtain ⟨y1, y2, xs, y3, y4, y5⟩ := z8 k r ds hr hd
        exact ⟨y1, y2, xs, oth y1 hj y3, y4, dps_ex eh y5⟩
  · cases q0 : H b with
    | none => rfl
    | some u =>
      by_cases ea : b = a1
      · rw [ea, l1] at h
        cases h
      · by_cases eb : b = a2
        · rw [eb, l2] at h
          cases h
        · rw [e b u ea eb q0] at h
          cases h
  · by_cases ea : b = a1
    · rw [ea]
      exact ⟨_, l1, by simp, by simp⟩
    · by_cases eb : b = a2
      · rw [eb]
        exact ⟨_, l2, by simp, by simp⟩
      · obtain ⟨u, w1, w2⟩ := R.live b j h
        exact ⟨u, e b u ea eb w1, w2⟩
def obC {β : Type} : Cell → (Addr → Dt → Int → List Int → List Int → T β) → T β
  | .ob a g st sp ps, f => f a g st sp ps
  | _, _ => .no
@[simp] theorem obC_ob {β : Type} {a : Addr} {g : Dt} {st : Int} {sp ps : List Int} {f : Addr → Dt → Int → List Int → List Int → T β} : obC (.ob a g st sp ps) f = f a g st sp ps := rfl
def rsFz : Rs → O Dt
  | .val d => gFz d
  | .new ds => gFn (.list ds)
  | .ob .. => .no
theorem rsFz_ex (r : Rs) (y : Str) : rsFz r ≠ .ex y := by
  cases r with
  | val z =>
    show (if noLst z then O.ok z else .no) ≠ .ex y
    split <;> simp
  | new ds =>
    show (if noLsts ds then O.ok (PyData.list ds) else .no) ≠ .ex y
    split <;> simp
  | ob _ _ _ _ => simp [rsFz]
/-- x.m(..) -/
def methK (i : Nat) (F : MO) (x : List Dt × MEnv) (a : Addr) (g : Dt) (st : Int) (sp ps : List Int) : T (Dt × MEnv) :=
  ofO (F g st sp ps x.1) x.2 fun r => ofO (rsFz r.1) x.2 fun d => .ret (d, x.2.set i (.ob a g st r.2.1 r.2.2))
def wMeth (i : Nat) (F : MO) (t : MX (List Dt)) : MX Dt := fun ρ => obC (at_ ρ i) fun _ _ _ _ _ => (t ρ).bind fun x => obC (at_ x.2 i) (methK i F x)
theorem obc_at {K : Fg} {i : Nat} {B M : Hp} {o : Addr → Option Nat} {σ : L2.St} {ρ : MEnv} {H : Hp} {β : Type} {f : Addr → Dt → Int → List Int → List Int → T β} {Q : β → Prop} {X : Str → MEnv → Prop} (R : Rl K B M o σ ρ H) (k : (obC (at_ ρ i) f).all Q X) :
    ∃ a g st sp ps, (f a g st sp ps).all Q X ∧ at_ ρ i = .ob a g st sp ps := by
  generalize at_ ρ i = c at k
  cases c with
  | ob a g st sp ps => exact ⟨a, g, st, sp, ps, k, rfl⟩
  | _ => exact k.elim
theorem rs_fz {K : Fg} {B M : Hp} {o : Addr → Option Nat} {σ : L2.St} {ρ : MEnv} {H H2 : Hp} {v : V} {r : Rs} {d : Dt} (R0 : ∀ b j, o b = some j → H b ≠ none) (R : Rl K B M o σ ρ H2) (h : RsOk K H H2 v r) (e : rsFz r = .ok d) : FzOk K o H2 v d := by
  cases r with
  | val z =>
    have e : (if noLst z then O.ok z else .no) = .ok d := e
    by_cases n : noLst z = true
    · rw [if_pos n] at e
      cases e
      exact fz_nolst R n h
    · rw [if_neg n] at e
      cases e
  | new ds =>
    have e : (if noLsts ds then O.ok (PyData.list ds) else .no) = .ok d := e
    by_cases n : noLsts ds = true
    · rw [if_pos n] at e
      cases e
      obtain ⟨p, xs, rfl, h1, h2, h3⟩ := h
      have op : o p = none := by
        cases q : o p with
        | none => rfl
        | some j => exact absurd h1 (R0 p j q)
      exact ⟨p, xs, rfl, by rw [hid_at op]; exact h2, dps_hid R n h3⟩
    · rw [if_neg n] at e
      cases e
  | ob _ _ _ _ => exact h.elim
theorem yw_meth {K : Fg} {E0 : XK} {ta : TA} {i : Nat} {m : Str} {F : MO} {t : MX (List Dt)} (ha : YWA K (fun _ => E0) ta t) (hm : ∀ gv st a1 a2, (obF gv st a1 a2).lookup m = none := by intros; rfl) :
    YW K (fun _ => E0) (tMeth (dC K) m (spO K F) [] E0 (tVar i) ta) (wMeth i F t) := fun B M o σ ρ H R Q k => by
  obtain ⟨a, g, st, sp, ps, k, hc⟩ := obc_at R k
  obtain ⟨hs, dx, a1, a2, gv, ho, _⟩ := ob_at R hc
  refine ⟨.ref a, hs, a, dx, _, rfl, ho.ins, hm .., ha B M o σ ρ H R _ (T.all_mono (fun x kx o1 us H1 R1 p1 => ?_) (fun _ _ z => z) (w_all k))⟩
  obtain ⟨a', g', st', sp', ps', k1, hc1⟩ := obc_at R1 kx
  obtain ⟨hs1, dx', b1, b2, gv', ho1, hg1, hn1, o0, o1', o2, o3⟩ := ob_at R1 hc1
  rw [hs] at hs1
  cases hs1
  rw [List.append_nil]
  refine ⟨a, us, dx', b1, b2, gv', g', st', sp', ps', x.1, rfl, ho1, dps_ex hid_le p1, ?_⟩
  refine O.go_mono (ofO_all.mp k1) (fun r kr v H' e l1 l2 hr => ?_) (fun y z H' e => z o1 H' (R1.ex e))
  have kr' := ofO_all.mp kr
  obtain ⟨R2, eh⟩ := ob_step R1 hs ho1 hg1 hn1 o0 o1' o2 o3 e l1 l2
  cases q : rsFz r.1 with
  | ok d =>
    rw [q] at kr'
    exact kr' o1 v H' R2 (rs_fz (fun b j hb hz => by
      obtain ⟨u, w1, _⟩ := R1.live b j hb
      rw [hz] at w1
      cases w1) R2 hr q)
  | ex y => exact absurd q (rsFz_ex _ _)
  | no => rw [q] at kr'; exact kr'.elim
/-- .. by a def -/
theorem yw_ocall {K : Fg} {E0 : XK} {ta : TA} {i : Nat} {F : MO} {t : MX (List Dt)} (ha : YWA K (fun _ => E0) ta t) : YW K (fun _ => E0) (tCall (spO K F) [] E0 (tCons (tVar i) ta)) (wMeth i F t) := fun B M o σ ρ H R Q k => by
  obtain ⟨a, g, st, sp, ps, k, hc⟩ := obc_at R k
  obtain ⟨hs, _⟩ := ob_at R hc
  refine ⟨.ref a, hs, ha B M o σ ρ H R _ (T.all_mono (fun x kx o1 us H1 R1 p1 => ?_) (fun _ _ z => z) (w_all k))⟩
  obtain ⟨a', g', st', sp', ps', k1, hc1⟩ := obc_at R1 kx
  obtain ⟨hs1, dx', b1, b2, gv', ho1, hg1, hn1, o0, o1', o2, o3⟩ := ob_at R1 hc1
  rw [hs] at hs1
  cases hs1
  rw [List.append_nil]
  refine ⟨a, us, dx', b1, b2, gv', g', st', sp', ps', x.1, rfl, ho1, dps_ex hid_le p1, ?_⟩
  refine O.go_mono (ofO_all.mp k1) (fun r kr v H' e l1 l2 hr => ?_) (fun y z H' e => z o1 H' (R1.ex e))
  have kr' := ofO_all.mp kr
  obtain ⟨R2, eh⟩ := ob_step R1 hs ho1 hg1 hn1 o0 o1' o2 o3 e l1 l2
  cases q : rsFz r.1 with
  | ok d =>
    rw [q] at kr'
    exact kr' o1 v H' R2 (rs_fz (fun b j hb hz => by
      obtain ⟨u, w1, _⟩ := R1.live b j hb
      rw [hz] at w1
      cases w1) R2 hr q)
  | ex y => exact absurd q (rsFz_ex _ _)
  | no => rw [q] at kr'; exact kr'.elim
/-! ### a new drawing -/
def newK (i : Nat) (F : MI') (x : List Dt × MEnv) : T Out :=
  ofO (F x.1) x.2 fun r => bif noLst r.1 then .fresh fun a _ => .ret (.nx (x.2.set i (.ob a r.1 r.2 [0] []))) else .no
def sNew (i : Nat) (F : MI') (t : MX (List Dt)) : MS := fun ρ => (t ρ).bind (newK i F)
def msk1 (p : Addr) (H : Hp) : Hp := fun b => if b = p then none else H b
theorem msk1_p {p : Addr} {H : Hp} : msk1 p H p = none := if_pos rfl
theorem msk1_ne {p b : Addr} {H : Hp} (h : b ≠ p) : msk1 p H b = H b := if_neg h
theorem msk1_ex {p : Addr} {H : Hp} : Ex (msk1 p H) H := fun b u h => by
  unfold msk1 at h
  split at h
  · cases h
  · exact h
theorem msk1_of {p : Addr} {H H' : Hp} (e : Ex H H') (h : H p = none) : Ex H (msk1 p H') := fun b u hb => by
  rw [msk1_ne fun z => by rw [z, h] at hb; cases hb]
  exact e b u hb
theorem new_step0 {K : Fg} {i : Nat} {B M : Hp} {o : Addr → Option Nat} {σ : L2.St} {ρ : MEnv} {H H2 : Hp} {a dx a1 a2 : Addr} {gv : V} {g : Dt} {st : Int} {sp ps : List Int} (R : Rl K B M o σ ρ H) (e : Ex H H2) (f0 : H a = none) (f1 : H dx = none) (f2 : H a1 = none) (f3 : H a2 = none)
    (ho : ObH K H2 a dx a1 a2 gv g st sp ps) (hn : noLst g = true) : ∃ o', Rl K B M o' σ ρ H2 ∧ ∀ H3, Ex H2 H3 → CellOk K B o' H3 i (some (some (.ref a))) (.ob a g st sp ps) := by
  have n01 : a ≠ dx := fun z => by
    have := ho.ins
    rw [z, ho.own] at this
    cases this
  have n02 : a ≠ a1 := fun z => by
    have := ho.ins
    rw [z, ho.l1] at this
    cases this
  have n03 : a ≠ a2 := fun z => by
    have := ho.ins
    rw [z, ho.l2] at this
    cases this
  have n12 : dx ≠ a1 := fun z => by
    have := ho.own
    rw [z, ho.l1] at this
    cases this
  have n13 : dx ≠ a2 := fun z => by
    have := ho.own
    rw [z, ho.l2] at this
    cases this
  have n23 := ho.ne
  have R0 : Rl K B M (own1 o a i) σ ρ (msk1 dx (msk1 a1 (msk1 a2 H2))) := R.own f0 (msk1_of (msk1_of (msk1_of e f3) f2) f1) (by rw [msk1_ne n01, msk1_ne n02, msk1_ne n03]; exact ho.ins) (by simp) (by simp)
  have R1 : Rl K B M (own1 (own1 o a i) dx i) σ ρ (msk1 a1 (msk1 a2 H2)) := R0.own msk1_p msk1_ex (by rw [msk1_ne n12, msk1_ne n13]; exact ho.own) (by simp) (by simp)
  have R2 : Rl K B M (own1 (own1 (own1 o a i) dx i) a1 i) σ ρ (msk1 a2 H2) := R1.own msk1_p msk1_ex (by rw [msk1_ne n23]; exact ho.l1) (by simp) (by simp)
  have R3 : Rl K B M (own1 (own1 (own1 (own1 o a i) dx i) a1 i) a2 i) σ ρ H2 := R2.own msk1_p msk1_ex ho.l2 (by simp) (by simp)
  refine ⟨_, R3, fun H3 e3 => ⟨rfl, dx, a1, a2, gv, e3 _ _ ho.ins, e3 _ _ ho.own, e3 _ _ ho.l1, e3 _ _ ho.l2, ho.ne, dp_ex (hid_ex e3) (dp_hid R3 hn ho.gear), hn, ?_, ?_, ?_, own1_at⟩⟩
  · rw [own1_ne n03, own1_ne n02, own1_ne n01, own1_at]
  · rw [own1_ne n13, own1_ne n12, own1_at]
  · rw [own1_ne n23, own1_at]
theorem new_step {K : Fg} {i : Nat} {B M : Hp} {o : Addr → Option Nat} {σ : L2.St} {ρ : MEnv} {H H2 : Hp} {a dx a1 a2 : Addr} {gv : V} {g : Dt} {st : Int} {sp ps : List Int} (R : Rl K B M o σ ρ H) (e : Ex H H2) (f0 : H a = none) (f1 : H dx = none) (f2 : H a1 = none) (f3 : H a2 = none)
    (ho : ObH K H2 a dx a1 a2 gv g st sp ps) (hn : noLst g = true) : ∃ o', Rl K B M o' (σ.set i (some (.ref a))) (ρ.set i (.ob a g st sp ps)) H2 := by
  obtain ⟨o', R', hc⟩ := new_step0 (i := i) R e f0 f1 f2 f3 ho hn
  exact ⟨o', R'.set (s := some (.ref a)) (c := .ob a g st sp ps) (hc H2 ex_rfl)⟩
theorem ys_new {K : Fg} {E0 : XK} {ta : TA} {i : Nat} {F : MI'} {t : MX (List Dt)} (ha : YWA K (fun _ => E0) ta t) : YS K (fun _ => E0) (tAsg (tMake (dC K) (spInit K F) [] E0 ta) (gName i)) (sNew i F t) := fun B M o σ ρ H D R k => by
  refine ha B M o σ ρ H R _ (T.all_mono (fun x kx o1 us H1 R1 p1 x0 dx hx hdx nx => ?_) (fun _ _ z => fun o' H' R' => z o' σ H' R') (w_all k))
  rw [List.append_nil]
  have e0 : Ex H1 (L2.upd (L2.upd H1 dx (.own x0)) x0 (.ins (dC K) dx [])) := fun b u hb => by
    have n1 : b ≠ x0 := fun z => by
      rw [z, hx] at hb
      cases hb
    have n2 : b ≠ dx := fun z => by
      rw [z, hdx] at hb
      cases hb
    rw [L2.upd_ne n1, L2.upd_ne n2]
    exact hb
  refine ⟨x0, dx, us, x.1, rfl, L2.upd_same, by rw [L2.upd_ne nx]; exact L2.upd_same, dps_ex (hid_le.trans e0) p1, ?_⟩
  refine O.go_mono (ofO_all.mp kx) (fun r kr H' a1 a2 gv ho f1 f2 e hg => ⟨rfl, ?_⟩) (fun y z H' e => z o1 σ H' (R1.ex (e0.trans e)))
  have eH : Ex H1 H' := fun b u hb => e b u (fun z => by rw [z, hx] at hb; cases hb) (e0 b u hb)
  cases q : noLst r.1 with
  | false =>
    rw [q] at kr
    exact kr.elim
  | true =>
    rw [q] at kr
    obtain ⟨o', R'⟩ := new_step (i := i) R1 eH hx hdx (Evl.fresh_back e0 f1) (Evl.fresh_back e0 f2) ho q
    exact kr x0 x0 o' _ H' R'
def newPK (i j : Nat) (F : MI') (b : MP) (x : List Dt × MEnv) : T Out :=
  ofO (F x.1) x.2 fun r => bif noLst r.1 then .fresh fun a _ => ofO (b x.2) x.2 fun e => .ret (.nx ((x.2.set i (.ob a r.1 r.2 [0] [])).set j (cellOf e))) else .no
def sNewPar (i j : Nat) (F : MI') (t : MX (List Dt)) (b : MP) : MS := fun ρ => (t ρ).bind (newPK i j F b)
theorem ys_newPar {K : Fg} {E0 : XK} {ta : TA} {tb : TE} {i j : Nat} {F : MI'} {t : MX (List Dt)} {b : MP} (ha : YWA K (fun _ => E0) ta t) (hb : YF K (fun _ => E0) tb b) (hij : i ≠ j := by decide) :
    YS K (fun _ => E0) (tPar i j (tCons (tMake (dC K) (spInit K F) [] E0 ta) (tCons tb tNil))) (sNewPar i j F t b) := fun B M o σ ρ H D R k => by
  refine ha B M o σ ρ H R _ (T.all_mono (fun x kx o1 us H1 R1 p1 x0 dx hx hdx nx => ?_) (fun _ _ z => fun o' H' R' => z o' σ H' R') (w_all k))
  rw [List.append_nil]
  have e0 : Ex H1 (L2.upd (L2.upd H1 dx (.own x0)) x0 (.ins (dC K) dx [])) := fun b u hb => by
    have n1 : b ≠ x0 := fun z => by
      rw [z, hx] at hb
      cases hb
    have n2 : b ≠ dx := fun z => by
      rw [z, hdx] at hb
      cases hb
    rw [L2.upd_ne n1, L2.upd_ne n2]
    exact hb
  refine ⟨x0, dx, us, x.1, rfl, L2.upd_same, by rw [L2.upd_ne nx]; exact L2.upd_same, dps_ex (hid_le.trans e0) p1, ?_⟩
  refine O.go_mono (ofO_all.mp kx) (fun r kr H' a1 a2 gv ho f1 f2 e hg => ⟨rfl, ?_⟩) (fun y z H' e => z o1 σ H' (R1.ex (e0.trans e)))
  have eH : Ex H1 H' := fun b u hb => e b u (fun z => by rw [z, hx] at hb; cases hb) (e0 b u hb)
  cases q : noLst r.1 with
  | false =>
    rw [q] at kr
    exact kr.elim
  | true =>
    rw [q] at kr
    obtain ⟨o', R', hc⟩ := new_step0 (i := i) R1 eH hx hdx (Evl.fresh_back e0 f1) (Evl.fresh_back e0 f2) ho q
    refine hb B M o' σ x.2 H' R' H' ex_rfl _ (O.go_mono (ofO_all.mp (kr x0 x0)) (fun d kd v H3 e3 p3 => ⟨_, _, rfl, ?_⟩) (fun y z H3 e3 => z o' σ H3 (R'.ex e3)))
    exact kd o' _ H3 (((R'.ex e3).set (s := some (.ref x0)) (c := .ob x0 r.1 r.2 [0] []) (hc H3 e3)).set_fz p3)
/-! ### len of a drawing -/
def tLenO (C : Addr) (sp : Sp) (E : XK) (ta : TE) : TE := fun σ H Q => ta σ H fun x H1 => ∃ (a dx : Addr) (fs : List (Str × V)), x = .ref a ∧ H1 a = some (.ins C dx fs) ∧ sp [x] H1 (fun v H2 => ∃ n : Nat, v = .int (n : Int) ∧ n ≤ 100000 ∧ Q (.int (n : Int)) H2) E
theorem pe_lenO {X : Cx} {ps : List Str} {k : Nat} {sp : Sp} {E : XK} {a : Expr} {ta : TE} {p pos : Pos} {C : Str} (M : Mth X.prog X.w X.K X.mg X.base C "__len__" ps k sp) (hr : Room (k + 1) X.A) (hx : Passes (L2.CX X.prog X.w) X E) (hg : Gl X "len") (hm : X.mg "len" = none) (ha : PE X a ta)
    (na : starEach [a] X.env = (false, eval a X.env) :: starEach [] X.env := by rfl) : PE X (.Call (.Name "len" p) [a] [] pos) (tLenO (He.ga X.K C) sp E ta) := by
  obtain ⟨fd, F, hb⟩ := M.cal.ex
  refine ⟨fun pins s σ H Q I h => ?_⟩
  refine Call_ (ld_blt I hg hm PySem.boot_len ?_)
  refine PyProof.Rows.callWith_builtin1 (PyProof.Rows.args_cons (thn (ha.run pins s σ H _ I h) fun u s1 ⟨x, H1, I1, r1, a, dx, fs, ex, hi, hsp⟩ => PyProof.Rows.args_nil ?_) na) na rfl
  subst ex
  obtain rfl : u = Value.ref a := r1
  obtain ⟨mA, O, _, _, _, _⟩ := ins_get I1.hok hi
  obtain ⟨od, hI, _⟩ := O.look
  have hr1 : Room k X.A.in1 := hr.in1
  have r2 : Vals [V.ref a] [Value.ref a] := .cons rfl .nil
  have run : wpAny (model X.prog X.w) X.A.in1 (call (.ref (He.ma X.K (He.ga X.K C) "__len__")) [.ref a]) (EP X pins σ fun v H2 => ∃ n : Nat, v = .int (n : Int) ∧ n ≤ 100000 ∧ Q (.int (n : Int)) H2) X.xe s1 := by
    refine wpAny_call (codeAny_mono (F.run X.A.in1 X.stack s1 H1 ⟨[.ref a], []⟩ [.ref a] [.ref a] _ E hr1 I1.env0.in1 (by
      have := hb s1 [.ref a] I1.kIn (by rw [List.append_nil]; exact F.len _ _ _ _ hsp)
      exact this) r2 hsp) fun r s' hq => ?_)
    cases r with
    | error e => exact hx pins σ H1 s1 e s' I1 hq
    | ok fl =>
      cases fl with
      | ret u => exact I1.after hq
      | next => exact False.elim hq
      | brk => exact False.elim hq
      | cont => exact False.elim hq
  refine Calls.call_function_entry kind_len plain_len entry_len (args_len1 _) ?_
  unfold Builtin.«len»
  refine wpAny_bind (m := oneArg "len" _) (wpAny_pure ?_)
  refine wpAny_bind (m := callSpecial? (.ref a) (PySem.Str.ofString "__len__")) (PySem.W.special_fn I1.kIn hI M.at_.at_ (beq_iff_eq.mp M.at_.fn) (wpAny_mono run (fun r s' hr => ?_) fun _ _ y => y))
  obtain ⟨v, H2, I2, rv, n, rfl, hn, q⟩ := hr
  obtain ⟨t, rfl⟩ := rv
  refine wpAny_bind (wpAny_holding (wpAny_pure ?_))
  refine wpAny_bind (wpAny_letGo ?_)
  show wpAny _ _ (if ((n : Nat) : Int) < 0 then _ else _) _ _ _
  rw [if_neg (by omega)]
  show wpAny _ _ (if ((n : Nat) : Int) ≥ 2 ^ 63 then _ else _) _ _ _
  rw [if_neg (by omega)]
  exact wpAny_bind (wpAny_mkInt (wpAny_pure ⟨_, rfl, .int (n : Int), H2, I2.tok _, ⟨_, rfl⟩, q⟩))
/-- the len of a drawing is that of its past -/
def spLenO (K : Fg) : Sp := fun vs H Q _ => ∃ (a dx a1 a2 : Addr) (gv : V) (g : Dt) (st : Int) (sp ps : List Int), vs = [.ref a] ∧ ObH K H a dx a1 a2 gv g st sp ps ∧ ∀ H', Ex H H' → Q (.int (ps.length : Nat)) H'
def wLenO (i : Nat) : MX Dt := fun ρ => obC (at_ ρ i) fun _ _ _ _ ps => if ps.length ≤ 100000 then .ret (.int (ps.length : Nat), ρ) else .no
theorem yw_lenO {K : Fg} {E0 : XK} {i : Nat} : YW K (fun _ => E0) (tLenO (dC K) (spLenO K) E0 (tVar i)) (wLenO i) := fun B M o σ ρ H R Q k => by
  obtain ⟨a, g, st, sp, ps, k, hc⟩ := obc_at R k
  obtain ⟨hs, dx, a1, a2, gv, ho, _⟩ := ob_at R hc
  have k' : (if ps.length ≤ 100000 then T.ret (PyData.int (ps.length : Nat), ρ) else .no).all _ _ := k
  split at k'
  · rename_i hl
    exact ⟨.ref a, hs, a, dx, _, rfl, ho.ins, a, dx, a1, a2, gv, g, st, sp, ps, rfl, ho, fun H' e => ⟨ps.length, rfl, hl, k' o _ H' (R.ex e) (.int _)⟩⟩
  · exact k'.elim
/-! ### readings on drawings -/
section
variable {K : Fg} {σ : L2.St} {H : Hp} {i : Nat} {a dx a1 a2 : Addr} {gv : V} {g : Dt} {st : Int} {sp ps : List Int}
theorem yv_fld {f : Str} {v : V} (k : DrwF K) (h : σ[i]? = some (some (.ref a))) {H1 : Hp} (ho : H1 a = some (.ins (dC K) dx (obF gv st a1 a2))) (hn : NoAttr K (dC K) f) (hl : (obF gv st a1 a2).lookup f = some v) {Q : VK} (q : Q v H1) : tFld K (tVar i) f σ H1 Q :=
  ⟨.ref a, h, a, dC K, dx, obF gv st a1 a2, v, rfl, ho, k.cls, hn, hl, q⟩
theorem yd_gear (k : DrwF K) (h : σ[i]? = some (some (.ref a))) (ho : ObH K H a dx a1 a2 gv g st sp ps) : Yd K (tFld K (tVar i) "gear") σ H g := fun H1 e Q q => yv_fld k h (e _ _ ho.ins) k.gear rfl (q _ H1 ex_rfl (dp_ex e ho.gear))
theorem yd_start (k : DrwF K) (h : σ[i]? = some (some (.ref a))) (ho : ObH K H a dx a1 a2 gv g st sp ps) : Yd K (tFld K (tVar i) "start") σ H (.int st) := fun H1 e Q q => yv_fld k h (e _ _ ho.ins) k.start rfl (q _ H1 ex_rfl (.int _))
theorem yd_steps (k : DrwF K) (h : σ[i]? = some (some (.ref a))) (ho : ObH K H a dx a1 a2 gv g st sp ps) : Yd K (tFld K (tVar i) "steps") σ H (.list (sp.map .int)) := fun H1 e Q q => yv_fld k h (e _ _ ho.ins) k.steps rfl (q _ H1 ex_rfl (.lst (SqL.of (e _ _ ho.l1)) (dps_ints sp)))
theorem yd_past (k : DrwF K) (h : σ[i]? = some (some (.ref a))) (ho : ObH K H a dx a1 a2 gv g st sp ps) : Yd K (tFld K (tVar i) "past") σ H (.list (ps.map .int)) := fun H1 e Q q => yv_fld k h (e _ _ ho.ins) k.past rfl (q _ H1 ex_rfl (.lst (SqL.of (e _ _ ho.l2)) (dps_ints ps)))
theorem yd_steps' (k : DrwF K) (h : σ[i]? = some (some (.ref a))) (ho : H a = some (.ins (dC K) dx (obF gv st a1 a2))) (hl : H a1 = some (.lst (sp.map .int))) : Yd K (tFld K (tVar i) "steps") σ H (.list (sp.map .int)) := fun H1 e Q q => yv_fld k h (e _ _ ho) k.steps rfl (q _ H1 ex_rfl (.lst (SqL.of (e _ _ hl)) (dps_ints sp)))
def noOb : Rs → Prop
  | .ob .. => False
  | _ => True
/-- a call of a def that has a mirror -/
theorem go_call {m : MF} {tr : TA} {ds : List Dt} {Q : VK} {E : XK} (ha : Ya K tr σ H ds) (k : (m ds).go (fun r => noOb r ∧ ∀ v H', Ex H H' → RsOk K H H' v r → Q v H') (fun x => ∀ H', Ex H H' → E (.ref (He.ga K x)) none H')) : tCall (spF K (FM m)) [] E tr σ H Q := by
  refine ha H ex_rfl _ fun vs H2 e2 p2 => ?_
  rw [List.append_nil]
  cases q : m ds with
  | ok r =>
    rw [q] at k
    cases r with
    | val d => exact ⟨ds, .val d, p2, by unfold FM; rw [q], fun v H3 e3 p3 => k.2 v H3 (e2.trans e3) p3⟩
    | new es => exact ⟨ds, .new es, p2, by unfold FM; rw [q], fun p xs H3 hp e3 h3 p3 => k.2 _ H3 (e2.trans e3) ⟨p, xs, rfl, Evl.fresh_back e2 hp, h3, p3⟩⟩
    | ob g st sp ps => exact k.1.elim
  | ex x =>
    rw [q] at k
    exact ⟨ds, .exc x, p2, by unfold FM; rw [q], fun H3 e3 => k H3 (e2.trans e3)⟩
  | no => rw [q] at k; exact k.elim
theorem len_o {F : MO} {n : Nat} (h : ∀ g st sp ps ds, List.length ds ≠ n → F g st sp ps ds = .no) : ∀ vs H Q E, spO K F vs H Q E → vs.length = n + 1 := fun vs H Q E ⟨a, us, dx, a1, a2, gv, g, st, sp, ps, ds, e, _, hd, k⟩ => by
  rw [e, List.length_cons, dps_len hd]
  by_cases c : ds.length = n
  · rw [c]
  · rw [h g st sp ps ds c] at k
    exact k.elim
theorem go_h {α : Type} {r : O α} {k : α → Prop} {x : Str → Prop} (h : ∀ y, r ≠ .ex y) (q : r.go k x) : ∃ a, r = .ok a ∧ k a := by
  cases r with
  | ok a => exact ⟨a, rfl, q⟩
  | ex y => exact absurd rfl (h y)
  | no => exact q.elim
theorem nx_ne {α : Type} {r : O α} : ∀ y, r.nx ≠ .ex y := fun y => by cases r <;> simp [O.nx]
theorem nx_is {α : Type} {r : O α} {a : α} (h : r.nx = .ok a) : r = .ok a := by cases r <;> simp [O.nx] at h; rw [h]
theorem yd_callM {m : MF} {ta : TA} {ds : List Dt} {r : Rs} {d : Dt} {E : XK} (ha : Ya K ta σ H ds) (h : m ds = .ok r) (hd : asDt r = .ok d) : Yd K (tCall (spF K (FM m)) [] E ta) σ H d := fun H1 e Q q => ha H1 e _ fun vs H2 e2 p2 => by
  rw [List.append_nil]
  cases r with
  | val z =>
    cases hd
    exact ⟨ds, .val _, p2, by unfold FM; rw [h], fun v H3 e3 p3 => q v H3 (e2.trans e3) p3⟩
  | new es =>
    cases hd
    exact ⟨ds, .new es, p2, by unfold FM; rw [h], fun p xs H3 hp e3 h3 p3 => q _ H3 (e2.trans e3) (.lst (SqL.of h3) p3)⟩
  | ob _ _ _ _ => cases hd
theorem asDt_ne (r : Rs) : ∀ y, asDt r ≠ .ex y := fun y => by cases r <;> simp [asDt]
theorem asDt_no {r : Rs} {d : Dt} (h : asDt r = .ok d) : noOb r := by
  cases r with
  | ob _ _ _ _ => cases h
  | val _ => trivial
  | new _ => trivial
theorem hAdd_int {d e : Dt} {z : Dt} (h : hAdd d e = .ok z) : ∃ i j, d = .int i ∧ e = .int j := by
  unfold hAdd at h
  split at h
  · exact ⟨_, _, rfl, rfl⟩
  · cases h
variable {D : Ends} {tz : TS}
theorem i_appF (k : DrwF K) {f : Str} {l : Addr} {xs : List V} {te : TE} {d : Dt} (h : σ[i]? = some (some (.ref a))) (ho : H a = some (.ins (dC K) dx (obF gv st a1 a2))) (hn : NoAttr K (dC K) f) (hf : (obF gv st a1 a2).lookup f = some (.ref l)) (hx : H l = some (.lst xs)) (hd : Yd K te σ H d) (hz : xs.length < sizeLine)
    (q : ∀ v H2, Ex H H2 → Dp K H2 v d → tz D σ (L2.upd H2 l (.lst (xs ++ [v])))) : tSeq (tDrop (tBM K "list" rAppend (tFld K (tVar i) f) (tCons te tNil))) tz D σ H :=
  yv_fld k h ho hn hf (Q := fun x H1 => tyV K "list" x H1 ∧ tCons te tNil σ H1 fun ys H2 => rAppend x ys H2 fun _ H3 => tz D σ H3) ⟨tyv_l hx, hd H ex_rfl _ fun v H2 e2 p2 => ⟨l, xs, v, rfl, rfl, e2 _ _ hx, hz, q v H2 e2 p2⟩⟩
theorem i_popF (k : DrwF K) {f : Str} {l : Addr} {xs : List V} {p : V} (h : σ[i]? = some (some (.ref a))) (ho : H a = some (.ins (dC K) dx (obF gv st a1 a2))) (hn : NoAttr K (dC K) f) (hf : (obF gv st a1 a2).lookup f = some (.ref l)) (hx : H l = some (.lst xs)) (hp : xs[xs.length - 1]? = some p)
    (q : tz D σ (L2.upd H l (.lst xs.dropLast))) : tSeq (tDrop (tBM0 K "list" rPop (tFld K (tVar i) f))) tz D σ H :=
  yv_fld k h ho hn hf (Q := fun x H1 => tyV K "list" x H1 ∧ rPop x [] H1 fun _ H3 => tz D σ H3) ⟨tyv_l hx, l, xs, p, rfl, rfl, hx, hp, q⟩
/-! data and an instance that changes -/
theorem rd_mskI {p a : Addr} {u o : HO} (hp : H p = some u) (hn : ∀ xs, u ≠ .lst xs) (hn2 : ∀ xs, u ≠ .tup xs) (hn3 : ∀ b xs, u ≠ .frz b xs) (h : H a = some o) (ho : (∃ xs, o = .lst xs) ∨ (∃ xs, o = .tup xs) ∨ ∃ b xs, o = .frz b xs) : msk1 p H a = some o := by
  rw [msk1_ne fun z => ?_]
  · exact h
  · rw [z, hp] at h
    cases h
    rcases ho with ⟨xs, e⟩ | ⟨xs, e⟩ | ⟨b, xs, e⟩
    · exact hn xs e
    · exact hn2 xs e
    · exact hn3 b xs e
mutual
theorem dp_mskI {p : Addr} {C : Addr} {dx : Addr} {fs : List (Str × V)} (hp : H p = some (.ins C dx fs)) : ∀ {d : Dt} {v : V}, Dp K H v d → Dp K (msk1 p H) v d
  | .none, _, h => by cases h; exact .non
  | .bool _, _, h => by cases h; exact .bl _
  | .int _, _, h => by cases h; exact .int _
  | .str _, _, h => by cases h; exact .str _
  | .list _, _, h => by
    cases h with
    | lst a b =>
      refine .lst ?_ (dps_mskI hp b)
      rcases a with (a | ⟨c, a⟩) | a
      · exact .inl (.inl (rd_mskI hp (by simp) (by simp) (by simp) a (.inl ⟨_, rfl⟩)))
      · exact .inl (.inr ⟨c, rd_mskI hp (by simp) (by simp) (by simp) a (.inr (.inr ⟨_, _, rfl⟩))⟩)
      · exact .inr a
  | .tuple _, _, h => by
    cases h with
    | tup a b =>
      refine .tup ?_ (dps_mskI hp b)
      rcases a with (a | ⟨c, a⟩) | a
      · exact .inl (.inl (rd_mskI hp (by simp) (by simp) (by simp) a (.inr (.inl ⟨_, rfl⟩))))
      · exact .inl (.inr ⟨c, rd_mskI hp (by simp) (by simp) (by simp) a (.inr (.inr ⟨_, _, rfl⟩))⟩)
      · exact .inr a
  | .dict _, _, h => by cases h
theorem dps_mskI {p : Addr} {C : Addr} {dx : Addr} {fs : List (Str × V)} (hp : H p = some (.ins C dx fs)) : ∀ {ds : List Dt} {vs : List V}, DpAll K H vs ds → DpAll K (msk1 p H) vs ds
  | [], _, h => by cases h; exact .nil
  | _ :: _, _, h => by
    cases h with
    | cons a b => exact .cons (dp_mskI hp a) (dps_mskI hp b)
end
end
end Wc

/-! WmN: chains of three comparisons. -/
namespace Wc
open PySem PySem.Spec PyProof.Rows L2
def tChain3 (r r' r'' : R2) (ta tb tc td : TE) : TE := fun σ H Q => ta σ H fun x H1 => tb σ H1 fun y H2 => r x y H2 fun z H3 => ∃ k, z = .bl k ∧
  (if k = true then tc σ H3 fun w H4 => r' y w H4 fun z' H5 => ∃ k', z' = .bl k' ∧ (if k' = true then td σ H5 fun u H6 => r'' w u H6 Q else Q (.bl false) H5) else Q (.bl false) H3)
theorem pe_chain3 {X : Cx} {a b c d : Expr} {ta tb tc td : TE} {pos : Pos} {op op' op'' : CmpOp} {r r' r'' : R2} (ho : OpR X (compareOp op) r) (ho' : OpR X (compareOp op') r') (ho'' : OpR X (compareOp op'') r'') (ha : PE X a ta) (hb : PE X b tb) (hc : PE X c tc) (hd : PE X d td)
    (hm : lastMarks [op, op', op''] [b, c, d] = false := by with_unfolding_all rfl) : PE X (.Compare a [op, op', op''] [b, c, d] pos) (tChain3 r r' r'' ta tb tc td) := by
  refine ⟨fun pins s σ H Q I h => ?_⟩
  refine Compare_chain (thn (ha.run pins s σ H _ I h) fun v s1 ⟨x, H1, I1, r1, q1⟩ => chain_link (thn (hb.run pins s1 σ H1 _ I1 q1) fun u s2 ⟨y, H2, I2, r2, q2⟩ =>
    thn (ho pins s2 σ H2 x y v u _ I2 r1 r2 q2) fun d s3 ⟨z, H3, I3, r3, k, e, q3⟩ => ?_)) hm
  subst e
  cases r3
  refine wpAny_truthy_bool ?_
  cases k with
  | false => exact ite_ff ⟨.bl false, H3, I3, rfl, q3⟩
  | true =>
    refine ite_tt (chain_link (thn (hc.run pins s3 σ H3 _ I3 q3) fun w' s4 ⟨z', H4, I4, r4, q4⟩ => thn (ho' pins s4 σ H4 y z' u w' _ I4 r2 r4 q4) fun d s5 ⟨z5, H5, I5, r5, k5, e5, q5⟩ => ?_))
    subst e5
    cases r5
    refine wpAny_truthy_bool ?_
    cases k5 with
    | false => exact ite_ff ⟨.bl false, H5, I5, rfl, q5⟩
    | true => exact ite_tt (chain_last (thn (hd.run pins s5 σ H5 _ I5 q5) fun w6 s6 ⟨z6, H6, I6, r6, q6⟩ => ho'' pins s6 σ H6 z' z6 w' w6 Q I6 r4 r6 q6))
section
variable {K : Fg} {E : XS} {ta tb tc td : TE} {a b c d : MP}
theorem yt_chain3 {r r' r'' : R2} {h h' h'' : Dt → Dt → O Dt} (ha : YT K E ta a) (hb : YT K E tb b) (hc : YT K E tc c) (hd : YT K E td d) (hr : Hr K r h) (hr' : Hr K r' h') (hr'' : Hr K r'' h'') : YT K E (tChain3 r r' r'' ta tb tc td) (pChain3 h h' h'' a b c d) := fun B M o σ ρ H R H1 e1 Q k =>
  ha B M o σ ρ H R H1 e1 _ (O.go_mono (O.go_bind.mp k) (fun x kx v H2 e2 p2 => hb B M o σ ρ H R H2 (e1.trans e2) _ (O.go_mono (O.go_bind.mp kx) (fun y ky u H3 e3 p3 => by
    obtain ⟨h1, h2⟩ := hr x y
    cases q : h x y with
    | ok z =>
      rw [q] at ky
      refine h2 z q v u H3 _ (dp_ex e3 p2) p3 fun v' H4 e4 p4 => ?_
      cases z with
      | bool k =>
        refine ⟨k, dp_bl p4, ?_⟩
        cases k with
        | true =>
          refine hc B M o σ ρ H R H4 (((e1.trans e2).trans e3).trans e4) _ (O.go_mono (O.go_bind.mp ky) (fun w kw u' H5 e5 p5 => ?_) fun x z H5 e5 => z H5 (((e2.trans e3).trans e4).trans e5))
          obtain ⟨h3, h4⟩ := hr' y w
          cases q' : h' y w with
          | ok z =>
            rw [q'] at kw
            refine h4 z q' u u' H5 _ (dp_ex (e4.trans e5) p3) p5 fun v6 H6 e6 p6 => ?_
            cases z with
            | bool k' =>
              refine ⟨k', dp_bl p6, ?_⟩
              cases k' with
              | true =>
                refine hd B M o σ ρ H R H6 (((((e1.trans e2).trans e3).trans e4).trans e5).trans e6) _ (O.go_mono (O.go_bind.mp kw) (fun w2 kw2 u2 H7 e7 p7 => ?_) fun x z H7 e7 => z H7 (((((e2.trans e3).trans e4).trans e5).trans e6).trans e7))
                obtain ⟨h5, h6⟩ := hr'' w w2
                cases q2 : h'' w w2 with
                | ok z =>
                  rw [q2] at kw2
                  exact h6 z q2 u' u2 H7 Q (dp_ex (e6.trans e7) p5) p7 fun v8 H8 e8 p8 => kw2 v8 H8 ((((((e2.trans e3).trans e4).trans e5).trans e6).trans e7).trans e8) p8
                | ex z => exact absurd q2 (h5 z)
                | no => rw [q2] at kw2; exact kw2.elim
              | false => exact kw _ H6 ((((e2.trans e3).trans e4).trans e5).trans e6) (.bl _)
            | _ => exact kw.elim
          | ex z => exact absurd q' (h3 z)
          | no => rw [q'] at kw; exact kw.elim
        | false => exact ky _ H4 ((e2.trans e3).trans e4) (.bl _)
      | _ => exact ky.elim
    | ex z => exact absurd q (h1 z)
    | no => rw [q] at ky; exact ky.elim) fun x z H3 e3 => z H3 (e2.trans e3))) fun _ z => z)
end
theorem pi_listK {X : Cx} {K : Fg} (hK : X.K = K) {tg l : Expr} {tl : TE} (hl : PE X l tl) : PI X tg l (iList K tl) := by
  subst hK
  exact pi_list hl
theorem pi_tupK {X : Cx} {K : Fg} (hK : X.K = K) {tg l : Expr} {tl : TE} (hl : PE X l tl) : PI X tg l (iTup K tl) := by
  subst hK
  exact pi_tup hl
theorem pi_enumK {X : Cx} {K : Fg} (hK : X.K = K) {e : Expr} {ta : TA} {p pos tpos : Pos} {elts : List Expr} {kk : Nat} (hg : Gl X "enumerate") (hm : X.mg "enumerate" = none) (ha : PA X [e] ta) (hs : starEach [e] X.env = [(false, eval e X.env)] := by rfl) :
    PI X (.Tuple elts kk tpos) (.Call (.Name "enumerate" p) [e] [] pos) (iEnum K ta) := by
  subst hK
  exact pi_enum hg hm ha hs
theorem pi_zipK {X : Cx} {K : Fg} (hK : X.K = K) {e e2 : Expr} {ta : TA} {p pos tpos : Pos} {elts : List Expr} {kk : Nat} (hg : Gl X "zip") (hm : X.mg "zip" = none) (ha : PA X [e, e2] ta)
    (hs : starEach [e, e2] X.env = (false, eval e X.env) :: starEach [e2] X.env := by rfl) (hpl : (backTo pos (starEach [e2] X.env)).any (·.1) = false := by rfl) :
    PI X (.Tuple elts kk tpos) (.Call (.Name "zip" p) [e, e2] [] pos) (iZip K ta) := by
  subst hK
  exact pi_zip hg hm ha hs hpl
end Wc

/-! WmP: the table of a set of pairs, up to 512 slots. -/
namespace Wc
open PySem PySem.Spec PyProof.Rows L2
/-! ### each slot is met -/
def Mw (m : Nat) : Prop := m = 7 ∨ m = 31 ∨ m = 127 ∨ m = 511
def orbL (m : Nat) : Nat → Nat → List Nat
  | 0, _ => []
  | n + 1, i => i :: orbL m n ((i * 5 + 1) % (m + 1))
theorem lcg_shift (m i : Nat) : ∀ k, lcgI m ((i * 5 + 1) % (m + 1)) k = lcgI m i (k + 1)
  | 0 => rfl
  | k + 1 => by
    show (lcgI m ((i * 5 + 1) % (m + 1)) k * 5 + 1) % (m + 1) = (lcgI m i (k + 1) * 5 + 1) % (m + 1)
    rw [lcg_shift m i k]
theorem orb_mem {m j : Nat} : ∀ {n i : Nat}, j ∈ orbL m n i → ∃ k, k < n ∧ lcgI m i k = j
  | 0, _, h => by cases h
  | n + 1, i, h => by
    rcases List.mem_cons.mp h with e | h
    · exact ⟨0, Nat.succ_pos _, e.symm⟩
    · obtain ⟨k, h1, h2⟩ := orb_mem h
      exact ⟨k + 1, Nat.succ_lt_succ h1, by rw [← lcg_shift]; exact h2⟩
theorem lcg_add (m i a : Nat) : ∀ k, lcgI m (lcgI m i a) k = lcgI m i (a + k)
  | 0 => rfl
  | k + 1 => by
    show (lcgI m (lcgI m i a) k * 5 + 1) % (m + 1) = (lcgI m i (a + k) * 5 + 1) % (m + 1)
    rw [lcg_add m i a k]
theorem orb511 : ((List.range 512).all fun j => (orbL 511 512 0).contains j) = true := by decide +kernel
theorem orb_back : lcgI 511 0 512 = 0 := by decide +kernel
theorem hit511 {i j : Nat} (hi : i ≤ 511) (hj : j ≤ 511) : ∃ k, k ≤ 511 ∧ lcgI 511 i k = j := by
  have key : ∀ x, x ≤ 511 → ∃ k, k < 512 ∧ lcgI 511 0 k = x := fun x hx => by
    have h := List.all_eq_true.mp orb511 x (List.mem_range.mpr (Nat.lt_succ_of_le hx))
    exact orb_mem (List.contains_iff_mem.mp h)
  obtain ⟨a, ha, ea⟩ := key i hi
  obtain ⟨b, hb, eb⟩ := key j hj
  rw [← ea]
  by_cases c : a ≤ b
  · refine ⟨b - a, by omega, ?_⟩
    rw [lcg_add, show a + (b - a) = b by omega]
    exact eb
  · refine ⟨b + 512 - a, by omega, ?_⟩
    rw [lcg_add, show a + (b + 512 - a) = 512 + b by omega, ← lcg_add, orb_back]
    exact eb
theorem hitW {m : Nat} (hm : Mw m) {i j : Nat} (hi : i ≤ m) (hj : j ≤ m) : ∃ k, k ≤ m ∧ lcgI m i k = j := by
  rcases hm with h | h | h | h
  · exact lcgI_all (.inl h) hi hj
  · exact lcgI_all (.inr (.inl h)) hi hj
  · exact lcgI_all (.inr (.inr h)) hi hj
  · subst h
    exact hit511 hi hj
theorem runW {m : Nat} (hm : Mw m) (h : Int) {j : Nat} (hj : j ≤ m) : ∃ n, n ≤ m + 12 ∧ runI m (SetTable.bits h) n = j := by
  obtain ⟨k, h1, h2⟩ := hitW hm (runI_le m (SetTable.bits h) 12) hj
  exact ⟨12 + k, by omega, (runI_tail (bits_lt h) k).trans h2⟩
theorem wayW {m : Nat} (hm : Mw m) (h : Int) {j : Nat} (hj : j ≤ m) : ∃ k, k < 10 * SetTable.turns m ∧ way m h k = j := by
  obtain ⟨n, h1, h2⟩ := runW hm h hj
  obtain ⟨k, h3, h4⟩ := run_nth m (SetTable.bits h) n
  refine ⟨k, by unfold SetTable.turns; omega, ?_⟩
  show (nth m (runAt m (SetTable.bits h % (m + 1)) (SetTable.bits h)) k).j = j
  rw [h4]
  exact h2
theorem way_in {m : Nat} {h : Int} {k : Nat} : way m h k ≤ m := by
  have b := runEnd_bd (m := m) (i := SetTable.bits h % (m + 1)) (Nat.le_of_lt_succ (Nat.mod_lt _ (Nat.succ_pos m)))
  have z := nth_in (m := m) k (runAt m (SetTable.bits h % (m + 1)) (SetTable.bits h)) (by
    show SetTable.bits h % (m + 1) + (SetTable.runEnd m (SetTable.bits h % (m + 1)) - SetTable.bits h % (m + 1)) ≤ m
    omega)
  exact Nat.le_trans (Nat.le_add_right _ _) z
/-! ### the table -/
structure Sl where
  j : Nat
  a : Addr
  k : List Int
structure Tw (f : List Int → Int) (t : SetTable) (R : List Sl) : Prop where
  place : t.place.toList = R.map Sl.j
  ris : Ris t.place.toList
  dm : t.dummies = #[]
  mok : Mw t.mask
  bd : ∀ r ∈ R, r.j ≤ t.mask
  reach : ∀ r ∈ R, ∃ k, way t.mask (f r.k) k = r.j ∧ ∀ k', k' < k → way t.mask (f r.k) k' ∈ R.map Sl.j
section
variable {f : List Int → Int} {t : SetTable} {R : List Sl}
theorem Tw.size (T : Tw f t R) : t.place.size = R.length := by
  have h := congrArg List.length T.place
  rwa [Array.length_toList, List.length_map] at h
theorem Tw.fits (T : Tw f t R) (hl : R.length ≤ t.mask) : t.fits R.length = true := by
  have h := T.size
  simp only [SetTable.fits, SetTable.fill, T.dm, h, Bool.and_eq_true, beq_iff_eq, decide_eq_true_eq]
  exact ⟨trivial, by show R.length + 0 ≤ _; omega⟩
/-- the first empty slot on a way -/
theorem Tw.gap (T : Tw f t R) (hl : R.length ≤ t.mask) (x : Int) : ∃ K, K < 10 * SetTable.turns t.mask ∧ way t.mask x K ∉ R.map Sl.j ∧ ∀ k, k < K → way t.mask x k ∈ R.map Sl.j := by
  obtain ⟨j, h1, h2⟩ := st_missing (R.map Sl.j) (t.mask + 1) (by rw [List.length_map]; omega)
  obtain ⟨k, h3, h4⟩ := wayW T.mok x (Nat.le_of_lt_succ h1)
  obtain ⟨K, z1, z2, z3⟩ := st_least (p := fun k => way t.mask x k ∉ R.map Sl.j) k (by rw [h4]; exact h2)
  exact ⟨K, Nat.lt_of_le_of_lt z1 h3, z2, fun k' hk => Classical.not_not.mp (z3 k' hk)⟩
theorem mask_oddW {m : Nat} (h : Mw m) : m % 2 = 1 := by
  rcases h with h | h | h | h <;> rw [h]
theorem Tw.put (T : Tw f t R) (x : Addr) (k : List Int) {K : Nat} (hK : way t.mask (f k) K ∉ R.map Sl.j) (hb : ∀ c, c < K → way t.mask (f k) c ∈ R.map Sl.j) :
    ∃ p, p = SetTable.below t.place (way t.mask (f k) K) ∧ p ≤ R.length ∧ Tw f (t.put (way t.mask (f k) K)).1 (R.take p ++ ⟨way t.mask (f k) K, x, k⟩ :: R.drop p) ∧ (t.put (way t.mask (f k) K)).1.fill = R.length + 1 := by
  generalize hj : way t.mask (f k) K = j at hK
  obtain ⟨c1, _, _⟩ := below_cut T.ris j
  rw [T.size] at c1
  refine ⟨_, rfl, c1, ?_⟩
  have pp := put_place t j
  have nin : t.place[SetTable.below t.place j]? ≠ some j := fun e => hK (by
    rw [← T.place]
    exact List.mem_of_getElem? (by rw [Array.getElem?_toList]; exact e))
  have rr := ris_insert T.ris nin
  generalize hp : SetTable.below t.place j = p at c1 pp rr
  have hm : (R.take p ++ ⟨j, x, k⟩ :: R.drop p).map Sl.j = (R.map Sl.j).take p ++ j :: (R.map Sl.j).drop p := by
    rw [List.map_append, List.map_cons, List.map_take, List.map_drop]
  have pl : (t.put j).1.place.toList = (R.take p ++ ⟨j, x, k⟩ :: R.drop p).map Sl.j := by rw [pp, hm, T.place]
  have up : ∀ {y : Nat}, y ∈ R.map Sl.j → y ∈ (R.take p ++ ⟨j, x, k⟩ :: R.drop p).map Sl.j := fun {y} hy => by
    rw [hm]
    exact mem_ins.mpr (.inr hy)
  refine ⟨⟨pl, ?_, put_dm T.dm j, T.mok, fun r hr => ?_, fun r hr => ?_⟩, ?_⟩
  · have e : (t.put j).1.place = SetTable.insertAt t.place p j := by rw [← hp]; rfl
    rw [e]
    exact rr
  · rcases mem_ins.mp hr with e | hr
    · rw [e, ← hj]
      exact way_in
    · exact T.bd r hr
  · rcases mem_ins.mp hr with e | hr
    · rw [e]
      exact ⟨K, hj, fun c hc => up (hb c hc)⟩
    · obtain ⟨c, h1, h2⟩ := T.reach r hr
      exact ⟨c, h1, fun c' hc' => up (h2 c' hc')⟩
  · have e := congrArg List.length pl
    rw [Array.length_toList, List.length_map, len_ins _ c1] at e
    show (t.put j).1.place.size + (t.put j).1.dummies.size = _
    rw [e, put_dm T.dm j]
    rfl
end
/-! ### laid anew -/
theorem findW {m : Nat} (hm : Mw m) (own : Array (Option Nat)) (x : Int) {j : Nat} (hj : j ≤ m) (hf : oAt own j = none) :
    ∃ K, SetTable.layClean.free m own (SetTable.turns m) (SetTable.bits x % (m + 1)) (SetTable.bits x) = some (way m x K) ∧ oAt own (way m x K) = none ∧ ∀ k, k < K → oAt own (way m x k) ≠ none := by
  obtain ⟨n, h1, h2⟩ := runW hm x hj
  have e : way m x (off m (SetTable.bits x % (m + 1)) (SetTable.bits x) n) = j := by
    show (nth m (runAt m (SetTable.bits x % (m + 1)) (SetTable.bits x)) _).j = j
    rw [nth_off, itL_run]
    exact h2
  obtain ⟨K, z1, z2, z3⟩ := st_least (p := fun k => oAt own (way m x k) = none) _ (show oAt own (way m x _) = none by rw [e]; exact hf)
  refine ⟨K, free_spec m own _ n _ _ K (by unfold SetTable.turns; omega) z1 (fun k hk => ?_) (by rw [z2]; rfl), z2, z3⟩
  have q := z3 k hk
  cases z : oAt own (way m x k) with
  | none => exact absurd z q
  | some y => rfl
theorem ownW {m : Nat} (hm : Mw m) {done : List Int} {own : Array (Option Nat)} (W : Own m done own) (hl : done.length ≤ m) (x : Int) :
    ∃ j, SetTable.layClean.free m own (SetTable.turns m) (SetTable.bits x % (m + 1)) (SetTable.bits x) = some j ∧ Own m (done ++ [x]) (own.setIfInBounds j (some done.length)) := by
  obtain ⟨ps, hp, hin⟩ := W.ps
  obtain ⟨j0, a1, a2⟩ := st_missing ps (m + 1) (by omega)
  have a3 : oAt own j0 = none := Classical.byContradiction fun z => a2 (hin j0 (Nat.le_of_lt_succ a1) z)
  obtain ⟨K, b1, b2, b3⟩ := findW hm own x (Nat.le_of_lt_succ a1) a3
  refine ⟨_, b1, ?_⟩
  have hj : way m x K ≤ m := way_in
  generalize hw : way m x K = j at b2 hj
  have js : j < own.size := by rw [W.sz]; omega
  have self := oAt_set_self (some done.length) js
  have up : ∀ {i : Nat}, oAt own i ≠ none → oAt (own.setIfInBounds j (some done.length)) i ≠ none := fun {i} hi => by
    by_cases c : i = j
    · rw [c, self]
      nofun
    · rwa [oAt_set_ne _ c]
  refine ⟨by rw [Array.size_setIfInBounds, W.sz], fun i k hi e => ?_, fun k hk => ?_, ⟨j :: ps, by simp [hp], fun i hi e => ?_⟩⟩
  · by_cases c : i = j
    · rw [c, self] at e
      cases e
      exact ⟨x, K, by simp, hw.trans c.symm, fun k' hk' => up (b3 k' hk')⟩
    · rw [oAt_set_ne _ c] at e
      obtain ⟨y, K', c1, c2, c3⟩ := W.at_ i k hi e
      exact ⟨y, K', by rw [List.getElem?_append_left (List.getElem?_eq_some_iff.mp c1).1]; exact c1, c2, fun k' hk' => up (c3 k' hk')⟩
  · rw [List.length_append, List.length_singleton] at hk
    rcases Nat.lt_succ_iff_lt_or_eq.mp hk with c | c
    · obtain ⟨i, c1, c2⟩ := W.all k c
      have ne : i ≠ j := fun z => by rw [z, b2] at c2; cases c2
      exact ⟨i, c1, by rw [oAt_set_ne _ ne]; exact c2⟩
    · exact ⟨j, hj, by rw [c]; exact self⟩
  · by_cases c : i = j
    · rw [c]
      exact List.mem_cons_self
    · rw [oAt_set_ne _ c] at e
      exact List.mem_cons_of_mem _ (hin i hi e)
theorem foldW {m : Nat} (hm : Mw m) : ∀ (rest done : List Int) (own : Array (Option Nat)), Own m done own → done.length + rest.length ≤ m →
    ∃ z, rest.foldl (stepF m) (some (own, done.length)) = some (z, (done ++ rest).length) ∧ Own m (done ++ rest) z
  | [], done, own, W, _ => ⟨own, by rw [List.append_nil]; rfl, by rwa [List.append_nil]⟩
  | x :: rest, done, own, W, hl => by
    rw [List.length_cons] at hl
    obtain ⟨j, e1, W1⟩ := ownW hm W (by omega) x
    obtain ⟨z, e2, W2⟩ := foldW hm rest (done ++ [x]) _ W1 (by rw [List.length_append, List.length_singleton]; omega)
    rw [List.append_assoc, List.length_append, List.length_singleton] at e2
    rw [List.append_assoc] at W2
    exact ⟨z, by rw [List.foldl_cons, stepF_some e1]; exact e2, W2⟩
theorem layW {m : Nat} (hm : Mw m) {hs : Array Int} (hn : hs.size ≤ m) : ∃ own, SetTable.layClean m hs = some own ∧ Own m hs.toList own := by
  obtain ⟨z, e, W⟩ := foldW hm hs.toList [] _ (Own.init m) (by rw [Array.length_toList]; simpa using hn)
  rw [List.nil_append] at W
  refine ⟨z, ?_, W⟩
  rw [layClean_eq]
  exact congrArg (Option.map (·.1)) e
def slD : Sl := ⟨0, 0, []⟩
/-- the slots after it -/
def newSl (R : List Sl) (live : List (Nat × Nat)) : List Sl := live.map fun q => ⟨q.1, (R.getD q.2 slD).a, (R.getD q.2 slD).k⟩
theorem getD_range {α : Type} (d : α) (R : List α) : (List.range R.length).map (fun i => R.getD i d) = R := by
  refine List.ext_getElem (by simp) fun i h1 h2 => ?_
  rw [List.getElem_map, List.getElem_range, List.getD_eq_getElem?_getD, List.getElem?_eq_getElem h2]
  rfl
theorem relayW {f : List Int → Int} {t : SetTable} {R : List Sl} {hs : Array Int} (hh : hs.toList = R.map fun r => f r.k) {wanted M : Nat} (hw : SetTable.sizeAbove wanted - 1 = M) (hM : Mw M) (hn : R.length ≤ M) :
    ∃ t' ord live, t.relaid hs wanted = some (t', ord) ∧ ord.toList = live.map (·.2) ∧ ord.toList.Perm (List.range R.length) ∧ Tw f t' (newSl R live) ∧ t'.mask = M ∧ t'.led = t.led ∧ t'.plain = t.plain := by
  have hz : hs.size = R.length := by
    have := congrArg List.length hh
    rwa [Array.length_toList, List.length_map] at this
  obtain ⟨own, e, W⟩ := layW hM (by rw [hz]; exact hn)
  have e' : t.relaid hs wanted = some (tabOf t M own, ((liveOf M own).map (·.2)).toArray) := by
    rw [relaid_eq, hw, e]
    rfl
  have ris := ris_live (fun j => own.getD j none) (List.range (M + 1)) (List.pairwise_lt_range ..)
  have r1 : Ris ((liveOf M own).map (·.1)) := ris.1
  have nd : ((liveOf M own).map (·.1)).Nodup := r1.imp fun h => Nat.ne_of_lt h
  have mem := fun {j k : Nat} => mem_live (owner := own) W.sz (j := j) (k := k)
  have full : ∀ k, k < R.length → k ∈ (liveOf M own).map (·.2) := fun k hk => by
    obtain ⟨j, b1, b2⟩ := W.all k (by rw [Array.length_toList, hz]; exact hk)
    exact List.mem_map.mpr ⟨(j, k), mem.mpr ⟨b1, b2⟩, rfl⟩
  have len : (liveOf M own).length = R.length := by
    obtain ⟨ps, p1, p2⟩ := W.ps
    have p1 : ps.length = R.length := p1.trans hz
    have a := nat_nodup_len ((liveOf M own).map (·.1)) ps nd fun x hx => by
      obtain ⟨⟨y, k⟩, q1, rfl⟩ := List.mem_map.mp hx
      obtain ⟨b1, b2⟩ := mem.mp q1
      exact p2 y b1 (by rw [b2]; nofun)
    have b := nat_nodup_len (List.range R.length) ((liveOf M own).map (·.2)) List.nodup_range fun k hk => full k (List.mem_range.mp hk)
    rw [List.length_map] at a b
    rw [List.length_range] at b
    omega
  have pm := perm_range R.length ((liveOf M own).map (·.2)) (by rw [List.length_map]; exact len) full
  have ej : (newSl R (liveOf M own)).map Sl.j = (liveOf M own).map (·.1) := by
    unfold newSl
    rw [List.map_map]
    rfl
  refine ⟨_, _, liveOf M own, e', by simp, by simpa using pm, ⟨ej.symm, r1, rfl, hM, fun r hr => ?_, fun r hr => ?_⟩, rfl, rfl, rfl⟩
  · obtain ⟨⟨j, k⟩, q1, rfl⟩ := List.mem_map.mp hr
    exact (mem.mp q1).1
  · obtain ⟨⟨j, k⟩, q1, rfl⟩ := List.mem_map.mp hr
    obtain ⟨b1, b2⟩ := mem.mp q1
    obtain ⟨x, K, c1, c2, c3⟩ := W.at_ j k b1 b2
    have ex : f (R.getD k slD).k = x := by
      rw [hh, List.getElem?_map] at c1
      obtain ⟨r, d1, d2⟩ := Option.map_eq_some_iff.mp c1
      rw [List.getD_eq_getElem?_getD, d1]
      exact d2
    refine ⟨K, by show way M (f (R.getD k slD).k) K = j; rw [ex]; exact c2, fun c hc => ?_⟩
    rw [ej]
    show way M (f (R.getD k slD).k) c ∈ _
    rw [ex]
    have z := c3 c hc
    cases q : oAt own (way M x c) with
    | none => exact absurd q z
    | some k2 => exact List.mem_map.mpr ⟨(_, k2), mem.mpr ⟨way_in, q⟩, rfl⟩
theorem sz_a : SetTable.sizeAbove (SetTable.grown 77) = 512 := by decide +kernel
end Wc

/-! WmQ: the set of pairs: searched, added to, made out of a list. -/
namespace Wc
open PySem PySem.Spec PyProof.Rows L2
abbrev th (P : Program) (w : World) (k : List Int) : Int := thash P w k
def rowW (P : Program) (w : World) (r : Sl) : Int × Value := (th P w r.k, Value.ref r.a)
structure Sw (P : Program) (w : World) (h : Heap) (a : Addr) (R : List Sl) (es : Array (Int × Value)) (ep : Nat) (t : SetTable) : Prop where
  ob : ∃ o, h.get? a = some o ∧ o.ExactSet ∧ o.data = .set es ep t
  rows : es.toList = R.map (rowW P w)
  tab : Tw (th P w) t R
  nd : (R.map Sl.k).Nodup
  tup : ∀ r ∈ R, IsT P w h r.k r.a
  plain : t.plain = true
  led : w.params.followText "set-order" = true ∨ t.led = true
  room : R.length * 5 < t.mask * 3
section
variable {P : Program} {w : World} {A : Around} {E : Value → Shared → Prop} {s : Shared} {a : Addr} {R : List Sl} {es : Array (Int × Value)} {ep : Nat} {t : SetTable}
theorem Sw.size (W : Sw P w s.heap a R es ep t) : es.size = R.length := by
  have h := congrArg List.length W.rows
  rwa [Array.length_toList, List.length_map] at h
theorem Sw.fits (W : Sw P w s.heap a R es ep t) : t.fits es.size = true := by
  have h := W.room
  rw [W.size]
  exact W.tab.fits (by omega)
theorem Sw.at_ (W : Sw P w s.heap a R es ep t) {i : Nat} {r : Sl} (h : R[i]? = some r) : es[i]? = some (rowW P w r) := by
  rw [← Array.getElem?_toList, W.rows, List.getElem?_map, h]
  rfl
theorem Sw.odd (W : Sw P w s.heap a R es ep t) : ¬ t.gaveWay = true := by
  unfold SetTable.gaveWay
  rw [mask_oddW W.tab.mok]
  decide
theorem nth_dm {m : Nat} : ∀ (n : Nat) (p : SetTable.Probe), p.dummy = none → (nth m p n).dummy = none
  | 0, _, h => h
  | n + 1, p, h => nth_dm n (adv m p) (by unfold adv; split <;> exact h)
abbrev ini (t : SetTable) (x : Int) : SetTable.Probe := runAt t.mask (SetTable.bits x % (t.mask + 1)) (SetTable.bits x)
theorem slot_of (T : Tw (th P w) t R) {i : Nat} {r : Sl} (h : R[i]? = some r) : t.slot r.j = .live i := slot_live T.ris (by rw [T.place, List.getElem?_map, h]; rfl)
theorem slot_inj (T : Tw (th P w) t R) {i : Nat} {r r' : Sl} (h : R[i]? = some r) (h' : r' ∈ R) (e : r'.j = r.j) : r' = r := by
  obtain ⟨i', hi⟩ := List.mem_iff_getElem?.mp h'
  have a := slot_of T h
  have b := slot_of T hi
  rw [e, a] at b
  cases b
  exact Option.some.inj (hi.symm.trans h)
/-- from the c-th step of its way on -/
theorem seekW (W : Sw P w s.heap a R es ep t) {x : Addr} {k : List Int} (hx : IsT P w s.heap k x) (hu : A.units < cLine) {K : Nat} (hKf : K < 10 * SetTable.turns t.mask)
    (hK : way t.mask (th P w k) K ∉ R.map Sl.j) (hb : ∀ c, c < K → way t.mask (th P w k) c ∈ R.map Sl.j) {Q : SetFound → Shared → Prop}
    (yes : k ∈ R.map Sl.k → Q (.there none) s) (no : k ∉ R.map Sl.k → Q (.free (way t.mask (th P w k) K) false) s) :
    ∀ (f c : Nat) (st : Option SetTable.Probe), st.getD (t.probeStart (th P w k)) = nth t.mask (ini t (th P w k)) c → c ≤ K → K - c < f →
      (∀ r ∈ R, r.k = k → ∃ c', c ≤ c' ∧ c' < K ∧ way t.mask (th P w k) c' = r.j) → wpAny (model P w) A (setSearchFrom a (.ref x) (th P w k) true f st) Q E s
  | 0, _, _, _, _, hf, _ => absurd hf (Nat.not_lt_zero _)
  | f + 1, c, st, hst, hc, hf, hre => by
    obtain ⟨o, o1, o2, o3⟩ := W.ob
    have wy : ∀ q, (nth t.mask (nth t.mask (ini t (th P w k)) c) q) = nth t.mask (ini t (th P w k)) (c + q) := fun q => (nth_add t.mask c _ q).symm
    have wj : ∀ q, (nth t.mask (nth t.mask (ini t (th P w k)) c) q).j = way t.mask (th P w k) (c + q) := fun q => congrArg SetTable.Probe.j (wy q)
    have hsh : ∀ {i : Nat} {r : Sl}, R[i]? = some r → (fun i => (es[i]?.map (·.1)).getD 0) i = th P w r.k := fun {i r} h => by
      show (es[i]?.map (·.1)).getD 0 = _
      rw [W.at_ h]
      rfl
    have sp := go_spec t W.tab.ris W.tab.dm (fun i => (es[i]?.map (·.1)).getD 0) (th P w k) (10 * SetTable.turns t.mask) (K - c) _ (nth_dm c (ini t (th P w k)) rfl) (by omega)
      (fun q hq => by rw [wj, W.tab.place]; exact hb _ (by omega)) (by rw [wj, show c + (K - c) = K by omega, W.tab.place]; exact hK)
    rw [← hst] at sp
    rw [setSearchFrom_succ]
    refine wpAny_bind (wpAny_setState_of o1 o3 W.fits ?_)
    dsimp only
    refine wp_if_neg W.odd ?_
    try refine wpAny_bind (wpAny_pure ?_)
    rcases sp with ⟨q, i, hq, hi, hh, hno, hpr⟩ | ⟨hno, hpr⟩
    · have pr : t.probe (fun i => (es[i]?.map (·.1)).getD 0) (th P w k) (st.getD (t.probeStart (th P w k))) = _ := hpr
      rw [pr, hst]
      dsimp only
      rw [hst] at hi hno
      rw [wj, W.tab.place, List.getElem?_map] at hi
      obtain ⟨r, hr, er⟩ := Option.map_eq_some_iff.mp hi
      have rm := List.mem_of_getElem? hr
      have rt := W.tup r rm
      have sl := slot_of W.tab hr
      have go : wpAny (model P w) A (searchRest a (.ref x) (th P w k) true f es t (nth t.mask (nth t.mask (ini t (th P w k)) c) q).j i (nth t.mask (nth t.mask (ini t (th P w k)) c) (q + 1))) Q E s := by
        rw [wj, wy]
        unfold searchRest
        rw [W.at_ hr]
        unfold rowW
        dsimp only
        refine wpAny_bind (wpAny_holding (wpAny_eqBool_tuple hu rt hx ?_))
        refine wpAny_bind (wpAny_setState_of o1 o3 W.fits ?_)
        dsimp only
        by_cases e : r.k = k
        · refine wp_if_pos (by simp [e]) (wpAny_pure (yes ?_))
          exact List.mem_map.mpr ⟨r, rm, e⟩
        · refine wp_if_neg (by simp [e]) ?_
          try refine wpAny_bind (wpAny_pure ?_)
          rw [sameMem, ← er]
          dsimp only
          simp only [if_true, sl, W.at_ hr, rowW]
          refine wpAny_bind (wpAny_isSame_ref_self (wpAny_bind (wpAny_pure ?_)))
          simp only [if_true]
          refine wp_if_neg (by simp [e]) ?_
          refine seekW W hx hu hKf hK hb yes no f (c + (q + 1)) _ rfl (by omega) (by omega) fun r' hr' e' => ?_
          obtain ⟨c', z1, z2, z3⟩ := hre r' hr' e'
          refine ⟨c', ?_, z2, z3⟩
          rcases Nat.lt_trichotomy c' (c + q) with y | y | y
          · exfalso
            obtain ⟨i', hi'⟩ := List.mem_iff_getElem?.mp hr'
            refine hno (c' - c) i' (by omega) ?_ ((hsh hi').trans (congrArg (th P w) e'))
            rw [wj, show c + (c' - c) = c' by omega, z3, W.tab.place, List.getElem?_map, hi']
            rfl
          · exfalso
            rw [y, ← er] at z3
            rw [slot_inj W.tab hr hr' z3.symm] at e'
            exact e e'
          · omega
      by_cases l : t.led = true
      · refine wp_if_neg (by simp [l]) ?_
        try refine wpAny_bind (wpAny_pure ?_)
        exact go
      · refine wp_if_pos (by simp [l]) ?_
        refine wpAny_bind (seen_tup hx (fun y hy => ?_) (wp_if_neg (by decide) ?_))
        · obtain ⟨e, he, ee⟩ := List.mem_map.mp hy
          have m1 : e ∈ es ∧ e.1 = th P w k := by simpa using he
          have m2 : e ∈ es.toList := by simpa using m1.1
          rw [W.rows] at m2
          obtain ⟨r2, n1, n2⟩ := List.mem_map.mp m2
          exact ⟨r2.k, r2.a, by rw [← ee, ← n2]; rfl, W.tup r2 n1⟩
        · try refine wpAny_bind (wpAny_pure ?_)
          exact go
    · have pr : t.probe (fun i => (es[i]?.map (·.1)).getD 0) (th P w k) (st.getD (t.probeStart (th P w k))) = _ := hpr
      rw [pr, hst, wj, show c + (K - c) = K by omega]
      rw [hst] at hno
      dsimp only
      refine wpAny_pure (no fun hm => ?_)
      obtain ⟨r, h1, h2⟩ := List.mem_map.mp hm
      obtain ⟨i, hi⟩ := List.mem_iff_getElem?.mp h1
      obtain ⟨c', z1, z2, z3⟩ := hre r h1 h2
      refine hno (c' - c) i (by omega) ?_ ((hsh hi).trans (congrArg (th P w) h2))
      rw [wj, show c + (c' - c) = c' by omega, z3, W.tab.place, List.getElem?_map, hi]
      rfl
theorem searchW (W : Sw P w s.heap a R es ep t) {x : Addr} {k : List Int} (hx : IsT P w s.heap k x) (hu : A.units < cLine) {Q : SetFound → Shared → Prop} (yes : k ∈ R.map Sl.k → Q (.there none) s)
    (no : ∀ K, k ∉ R.map Sl.k → way t.mask (th P w k) K ∉ R.map Sl.j → (∀ c, c < K → way t.mask (th P w k) c ∈ R.map Sl.j) → Q (.free (way t.mask (th P w k) K) false) s) :
    wpAny (model P w) A (setSearch a (.ref x) (th P w k) true) Q E s := by
  have rm := W.room
  obtain ⟨K, h1, h2, h3⟩ := W.tab.gap (by omega) (th P w k)
  have big : 10 * SetTable.turns t.mask ≤ 5260 := by
    unfold SetTable.turns
    rcases W.tab.mok with e | e | e | e <;> omega
  unfold setSearch
  refine seekW W hx hu h1 h2 h3 yes (fun n => no K n h2 h3) 100000 0 none rfl (Nat.zero_le _) (by omega) fun r hr e => ?_
  obtain ⟨c, z1, z2⟩ := W.tab.reach r hr
  rw [e] at z1 z2
  refine ⟨c, Nat.zero_le _, ?_, z1⟩
  rcases Nat.lt_trichotomy c K with y | y | y
  · exact y
  · rw [← y, z1] at h2
    exact absurd (List.mem_map.mpr ⟨r, hr, rfl⟩) h2
  · exact absurd (z2 K y) h2
def pk (R : List Sl) : List (Addr × List Int) := R.map fun r => (r.a, r.k)
theorem pk_k (R : List Sl) : (pk R).map (·.2) = R.map Sl.k := by
  unfold pk
  rw [List.map_map]
  rfl
theorem pk_len (R : List Sl) : (pk R).length = R.length := by unfold pk; rw [List.length_map]
theorem new_pk {R : List Sl} {live : List (Nat × Nat)} (h : (live.map (·.2)).Perm (List.range R.length)) : (pk (newSl R live)).Perm (pk R) := by
  have e1 : pk (newSl R live) = (live.map (·.2)).map fun i => ((R.getD i slD).a, (R.getD i slD).k) := by
    unfold pk newSl
    rw [List.map_map, List.map_map]
    rfl
  have e2 : pk R = (List.range R.length).map fun i => ((R.getD i slD).a, (R.getD i slD).k) := by
    unfold pk
    conv => lhs; rw [← getD_range slD R]
    rw [List.map_map]
    rfl
  rw [e1, e2]
  exact h.map _
theorem new_rows {R : List Sl} {live : List (Nat × Nat)} (he : es.toList = R.map (rowW P w)) (h : ∀ i ∈ live.map (·.2), i < R.length) : (live.map (·.2)).filterMap (fun i => es[i]?) = (newSl R live).map (rowW P w) := by
  induction live with
  | nil => rfl
  | cons q live ih =>
    have hq : q.2 < R.length := h _ (by simp)
    have e : es[q.2]? = some (rowW P w ⟨q.1, (R.getD q.2 slD).a, (R.getD q.2 slD).k⟩) := by
      rw [← Array.getElem?_toList, he, List.getElem?_map, List.getElem?_eq_getElem hq, List.getD_eq_getElem?_getD, List.getElem?_eq_getElem hq]
      rfl
    rw [List.map_cons, List.filterMap_cons_some e, ih fun i hi => h i (List.mem_cons_of_mem _ hi)]
    rfl
/-- the table laid anew -/
theorem relay_W {o : Obj} (o1 : s.heap.get? a = some o) (o2 : o.ExactSet) (o3 : o.data = .set es ep t) (he : es.toList = R.map (rowW P w)) (T : Tw (th P w) t R) (hf : R.length ≤ t.mask)
    (nd : (R.map Sl.k).Nodup) (tup : ∀ r ∈ R, IsT P w s.heap r.k r.a) (pl : t.plain = true) (ld : w.params.followText "set-order" = true ∨ t.led = true) {wanted M : Nat}
    (hw : SetTable.sizeAbove wanted - 1 = M) (hM : Mw M) (hw2 : SetTable.sizeAbove wanted ≤ 512) (hn : R.length * 5 < M * 3) {Q : Unit → Shared → Prop}
    (q : ∀ h' R' es' ep' t', Heap.SameBut a s.heap h' → Sw P w h' a R' es' ep' t' → (pk R').Perm (pk R) → Q () { s with heap := h' }) : wpAny (model P w) A (setRelay a wanted) Q E s := by
  have hz : es.size = R.length := by
    have h := congrArg List.length he
    rwa [Array.length_toList, List.length_map] at h
  have m512 : M ≤ 511 := by omega
  obtain ⟨t', ord, live, e, eo, pm, T', em, el, ep'⟩ := relayW (t := t) (f := th P w) (R := R) (hs := es.map (·.1)) (by rw [Array.toList_map, he, List.map_map]; rfl) hw hM (by omega)
  have rw1 : (ord.filterMap (es[·]?)).toList = (newSl R live).map (rowW P w) := by
    rw [Array.toList_filterMap, eo]
    exact new_rows he fun i hi => List.mem_range.mp (pm.mem_iff.mp (by rw [eo]; exact hi))
  have pkp : (pk (newSl R live)).Perm (pk R) := new_pk (by rw [← eo]; exact pm)
  have len : (newSl R live).length = R.length := by rw [← pk_len, pkp.length_eq, pk_len]
  have hz2 : (ord.filterMap (es[·]?)).size = es.size := by
    have h := congrArg List.length rw1
    rw [Array.length_toList, List.length_map, len] at h
    rw [h, hz]
  rw [setRelay_eq]
  refine wpAny_bind (wpAny_setState_of o1 o3 (by rw [hz]; exact T.fits hf) ?_)
  dsimp only
  refine wp_if_neg (by rw [sizeLine_eq]; omega) ?_
  try refine wpAny_bind (wpAny_pure ?_)
  rw [e]
  dsimp only
  refine wpAny_bind (wp_if_neg (by rw [hz2]; simp) ?_)
  try refine wpAny_bind (wpAny_pure ?_)
  refine wpAny_pure ?_
  dsimp only
  have sb : Heap.SameBut a s.heap (s.heap.update a (Obj.putSet (ord.filterMap (es[·]?)) t')) := Heap.SameBut.update ..
  refine wpAny_storeSet_of o1 o3 (q _ (newSl R live) (ord.filterMap (es[·]?)) (ep + 1) t' sb ⟨⟨_, store_at o1 o3, ⟨o2.1, o2.2.1, o2.2.2⟩, rfl⟩, rw1, T', ?_, fun r hr => ?_, by rw [ep']; exact pl, by rw [el]; exact ld, by rw [len, em]; exact hn⟩ pkp) (by rw [hz2, hz, sizeLine_eq]; omega)
  · rw [← pk_k]
    exact (pkp.map (·.2)).nodup_iff.mpr (by rw [pk_k]; exact nd)
  · have m : (r.a, r.k) ∈ pk R := pkp.mem_iff.mp (List.mem_map.mpr ⟨r, hr, rfl⟩)
    obtain ⟨r0, m1, m2⟩ := List.mem_map.mp m
    have z := tup r0 m1
    rw [show r0.k = r.k from congrArg Prod.snd m2, show r0.a = r.a from congrArg Prod.fst m2] at z
    exact isT_same z o1 o3 sb
/-- adding -/
theorem addW (W : Sw P w s.heap a R es ep t) {x : Addr} {k : List Int} (hx : IsT P w s.heap k x) (hu : A.units < cLine) (few : R.length < 300) {Q : Bool → Shared → Prop}
    (q : ∀ b h' R' es' ep' t', Heap.SameBut a s.heap h' → Sw P w h' a R' es' ep' t' → (k ∈ R.map Sl.k → R' = R) → (k ∉ R.map Sl.k → (pk R').Perm ((x, k) :: pk R)) → Q b { s with heap := h' }) :
    wpAny (model P w) A (setAddHashed a (.ref x) (th P w k)) Q E s := by
  obtain ⟨o, o1, o2, o3⟩ := W.ob
  have rm := W.room
  unfold setAddHashed
  refine wpAny_holding ?_
  rw [show (100000 : Nat) = 99999 + 1 from rfl, setAddHashedIn_succ]
  refine wpAny_bind (wpAny_setState_of o1 o3 W.fits ?_)
  dsimp only
  refine wp_if_neg (by simp [byScan, Value.scannable]) ?_
  try refine wpAny_bind (wpAny_pure ?_)
  refine wpAny_bind (searchW W hx hu (fun hm => ?_) fun K hm hK hb => ?_)
  · dsimp only
    exact wpAny_pure (q false s.heap R es ep t (Heap.SameBut.refl a s.heap) W (fun _ => rfl) fun z => absurd hm z)
  dsimp only
  refine wpAny_bind (wpAny_setState_of o1 o3 W.fits ?_)
  dsimp only
  obtain ⟨p, ep0, pl, T1, fl⟩ := W.tab.put x k hK hb
  generalize hR1 : R.take p ++ ⟨way t.mask (th P w k) K, x, k⟩ :: R.drop p = R1 at T1
  have pr : (t.put (way t.mask (th P w k) K)).2 = p := ep0.symm
  have q1 : (t.put (way t.mask (th P w k) K)).1.mask = t.mask := rfl
  have q2 : (t.put (way t.mask (th P w k) K)).1.plain = t.plain := rfl
  have q3 : (t.put (way t.mask (th P w k) K)).1.led = t.led := rfl
  generalize t.put (way t.mask (th P w k) K) = tp at T1 fl pr q1 q2 q3 ⊢
  obtain ⟨t1, p'⟩ := tp
  dsimp only at T1 fl pr q1 q2 q3 ⊢
  subst pr
  first
    | (refine wpAny_bind ?_; refine wp_if_pos (q2.trans W.plain) ?_; refine hashBy_tup hx ?_)
    | refine wp_if_pos (q2.trans W.plain) (wpAny_bind (hashBy_tup hx ?_))
  simp only [if_true]
  have len1 : R1.length = R.length + 1 := by rw [← hR1]; exact len_ins _ pl _
  have pk1 : (pk R1).Perm ((x, k) :: pk R) := by
    rw [← hR1]
    exact (put_perm R p' _).map _
  have ein : (SetTable.insertAt es p' (th P w k, Value.ref x)).toList = R1.map (rowW P w) := by
    rw [SetTable.toList_insertAt, W.rows, ← hR1, List.map_append, List.map_cons, List.map_take, List.map_drop]
    rfl
  generalize SetTable.insertAt es p' (th P w k, Value.ref x) = es1 at ein ⊢
  have hz1 : es1.size = R.length + 1 := by
    have h := congrArg List.length ein
    rwa [Array.length_toList, List.length_map, len1] at h
  have nd1 : (R1.map Sl.k).Nodup := by
    rw [← pk_k]
    refine (pk1.map (·.2)).nodup_iff.mpr ?_
    rw [List.map_cons, pk_k]
    exact List.nodup_cons.mpr ⟨hm, W.nd⟩
  refine wpAny_bind (wpAny_storeSet_of o1 o3 ?_ (by rw [hz1, sizeLine_eq]; omega))
  have sb : Heap.SameBut a s.heap (s.heap.update a (Obj.putSet es1 t1)) := Heap.SameBut.update ..
  have o4 := store_at (es' := es1) (t' := t1) o1 o3
  generalize s.heap.update a (Obj.putSet es1 t1) = h1 at sb o4 ⊢
  have tup1 : ∀ r ∈ R1, IsT P w h1 r.k r.a := fun r hr => by
    have m : (r.a, r.k) ∈ (x, k) :: pk R := pk1.mem_iff.mp (List.mem_map.mpr ⟨r, hr, rfl⟩)
    rcases List.mem_cons.mp m with e | m
    · rw [show r.k = k from congrArg Prod.snd e, show r.a = x from congrArg Prod.fst e]
      exact isT_same hx o1 o3 sb
    · obtain ⟨r0, m1, m2⟩ := List.mem_map.mp m
      have z := W.tup r0 m1
      rw [show r0.k = r.k from congrArg Prod.snd m2, show r0.a = r.a from congrArg Prod.fst m2] at z
      exact isT_same z o1 o3 sb
  have ld1 : w.params.followText "set-order" = true ∨ t1.led = true := by rw [q3]; exact W.led
  by_cases hf : t1.tooFull = true
  · have full : (R.length + 1) * 5 ≥ t1.mask * 3 := by
      have h := hf
      unfold SetTable.tooFull at h
      rw [decide_eq_true_eq, fl] at h
      exact h
    rw [q1] at full
    first
      | (refine wpAny_bind ?_; refine wp_if_pos (by simp [hf]) ?_)
      | (refine wp_if_pos (by simp [hf]) ?_; refine wpAny_bind ?_)
    rw [W.size]
    have go : ∀ M, SetTable.sizeAbove (SetTable.grown (R.length + 1)) - 1 = M → Mw M → SetTable.sizeAbove (SetTable.grown (R.length + 1)) ≤ 512 → (R.length + 1) * 5 < M * 3 →
        wpAny (model P w) A (setRelay a (SetTable.grown (R.length + 1))) (fun _ s' => wpAny (model P w) A (pure true) Q E s') E { s with heap := h1 } := fun M z1 z2 z3 z4 =>
      relay_W (s := { s with heap := h1 }) o4 ⟨o2.1, o2.2.1, o2.2.2⟩ rfl ein T1 (by rw [len1, q1]; omega) nd1 tup1 (q2.trans W.plain) ld1 z1 z2 z3 (by rw [len1]; exact z4)
        fun h2 R2 es2 ep2 t2 sb2 W2 pm2 => wpAny_pure (q true h2 R2 es2 ep2 t2 (sb.trans sb2) W2 (fun z => absurd z hm) fun _ => pm2.trans pk1)
    have cs : (t.mask = 7 ∧ R.length + 1 = 5) ∨ (t.mask = 31 ∧ R.length + 1 = 19) ∨ (t.mask = 127 ∧ R.length + 1 = 77) := by
      rcases W.tab.mok with e | e | e | e
      · rw [e] at full rm; exact .inl ⟨e, by omega⟩
      · rw [e] at full rm; exact .inr (.inl ⟨e, by omega⟩)
      · rw [e] at full rm; exact .inr (.inr ⟨e, by omega⟩)
      · rw [e] at full; omega
    rcases cs with ⟨_, e⟩ | ⟨_, e⟩ | ⟨_, e⟩
    · exact go 31 (by rw [e, size_20]) (.inr (.inl rfl)) (by rw [e, size_20]; decide) (by omega)
    · exact go 127 (by rw [e, size_76]) (.inr (.inr (.inl rfl))) (by rw [e, size_76]; decide) (by omega)
    · exact go 511 (by rw [e, sz_a]) (.inr (.inr (.inr rfl))) (by rw [e, sz_a]; decide) (by omega)
  · have ok : ¬ (R.length + 1) * 5 ≥ t1.mask * 3 := fun z => hf (by
      unfold SetTable.tooFull
      rw [decide_eq_true_eq, fl]
      exact z)
    first
      | refine wp_if_neg (by simp [hf]) ?_
      | (refine wpAny_bind ?_; refine wp_if_neg (by simp [hf]) ?_; refine wpAny_pure ?_)
    exact wpAny_pure (q true h1 R1 es1 (ep + 1) t1 sb ⟨⟨_, o4, ⟨o2.1, o2.2.1, o2.2.2⟩, rfl⟩, ein, T1, nd1, tup1, q2.trans W.plain, ld1, by rw [len1]; omega⟩ (fun z => absurd z hm) fun _ => pk1)
end
end Wc

/-! WmR: set(pairs), sorted(set(pairs)) as rules. -/
namespace Wc
open PySem PySem.Spec PyProof.Rows L2
section
variable {P : Program} {w : World} {A : Around} {E : Value → Shared → Prop} {s : Shared}
theorem Sw.stay {h h' : Heap} {a : Addr} {R : List Sl} {es : Array (Int × Value)} {ep : Nat} {t : SetTable} (W : Sw P w h a R es ep t) (ha : ∀ o, h.get? a = some o → h'.get? a = some o) (ht : ∀ r ∈ R, IsT P w h' r.k r.a) : Sw P w h' a R es ep t := by
  obtain ⟨o, o1, o2⟩ := W.ob
  exact ⟨⟨o, ha o o1, o2⟩, W.rows, W.tab, W.nd, ht, W.plain, W.led, W.room⟩
theorem freshW {h : Heap} {a : Addr} (ho : h.get? a = some (nwS w)) : Sw P w h a [] #[] 0 (.fresh 0 0 (!w.params.followText "set-order")) := by
  refine ⟨⟨_, ho, ⟨rfl, rfl, rfl⟩, rfl⟩, rfl, ⟨rfl, List.Pairwise.nil, rfl, .inl rfl, nofun, nofun⟩, List.nodup_nil, nofun, rfl, ?_, by show 0 * 5 < 7 * 3; decide⟩
  show _ ∨ (!w.params.followText "set-order") = true
  cases w.params.followText "set-order"
  · exact .inr rfl
  · exact .inl rfl
theorem pk_mem {R : List Sl} {r : Sl} (h : r ∈ R) : (r.a, r.k) ∈ pk R := List.mem_map.mpr ⟨r, h, rfl⟩
theorem nd_len {α : Type} [DecidableEq α] : ∀ {l D : List α}, l.Nodup → (∀ x ∈ l, x ∈ D) → l.length ≤ D.length
  | [], _, _, _ => Nat.zero_le _
  | x :: l, D, n, h => by
    obtain ⟨n1, n2⟩ := List.nodup_cons.mp n
    have hx := h x List.mem_cons_self
    have ih := nd_len (D := D.erase x) n2 fun y hy => (List.mem_erase_of_ne (fun (e : y = x) => n1 (e ▸ hy))).mpr (h y (List.mem_cons_of_mem _ hy))
    rw [List.length_erase_of_mem hx] at ih
    have := List.length_pos_of_mem hx
    rw [List.length_cons]
    omega
theorem few_of {D : List (List Int)} {R : List Sl} (nd : (R.map Sl.k).Nodup) (h : ∀ k ∈ R.map Sl.k, k ∈ D) : R.length ≤ D.length := by
  have := nd_len nd h
  rwa [List.length_map] at this
theorem updW {I : Addr} {fp wr : List Addr} {G : Array GenState → Array GenState → Prop} {n : Nat} {Pv : Nat → Value → Prop} {St : Nat → Shared → Prop} {Rz : Result → Shared → Prop}
    (V : WalksS P w A.in1 I fp wr G n Pv St) (S : Addr) (sf : S ∉ fp) (ks : List (Addr × List Int)) (hn : n = ks.length) (D : List (List Int)) (dl : D.length < 300) (dm : ∀ p ∈ ks, p.2 ∈ D) (hv : ∀ i v, Pv i v → ∃ p, ks[i]? = some p ∧ v = .ref p.1)
    (h0 : Heap) (hk : ∀ p ∈ ks, IsT P w h0 p.2 p.1) (s0 : h0.get? S = none) (w0 : ∀ b ∈ wr, h0.get? b = none) (hu : A.in1.units < cLine) :
    ∀ (k i : Nat) (s : Shared), n - i = k → i ≤ n → St i s → (∀ b o, h0.get? b = some o → s.heap.get? b = some o) → (∃ R es ep t, Sw P w s.heap S R es ep t ∧ Got ks i (pk R)) →
      (∀ s' R es ep t, Moved (S :: wr) G s s' → Sw P w s'.heap S R es ep t → Got ks n (pk R) → (∀ b o, h0.get? b = some o → s'.heap.get? b = some o) → Rz (.ok (.ret .none)) s') →
      codeAny (model P w) A (.builtin "set.update.loop" ⟨[.ref S, .ref I], []⟩) Rz s := by
  have sw : S ∉ wr := fun h => sf (V.sub _ h)
  have sub1 : ∀ b ∈ wr, b ∈ S :: wr := fun b => List.mem_cons_of_mem _
  have on : ∀ {s s' : Shared}, Moved wr G s s' → (∀ b o, h0.get? b = some o → s.heap.get? b = some o) → ∀ b o, h0.get? b = some o → s'.heap.get? b = some o := fun m q b o e =>
    m.heap b o (fun z => by rw [w0 b z] at e; cases e) (q b o e)
  have inks : ∀ {R : List Sl} {i : Nat}, Got ks i (pk R) → ∀ r ∈ R, (r.a, r.k) ∈ ks := fun g r hr => List.mem_of_mem_take (g.sub _ (pk_mem hr))
  intro k
  induction k with
  | zero =>
    intro i s hk' hi st kp ⟨R, es, ep, t, W, g⟩ q
    obtain rfl : i = n := by omega
    refine codeAny_builtin F.entry_set_update_loop ?_
    rw [Around.under_plainId F.plain_set_update_loop _]
    show wpAny _ A.in1 (pyNext (.ref I) >>= _) _ _ s
    refine wpAny_bind (V.done s _ _ st fun s' m => ?_)
    have kp' := on m kp
    show wpAny _ A.in1 (ret Value.none) _ _ s'
    exact wpAny_pure (q s' R es ep t (m.mono sub1) (W.stay (fun o e => m.heap S o sw e) fun r hr => isT_keep (hk _ (inks g r hr)) kp') g kp')
  | succ k ih =>
    intro i s hk' hi st kp ⟨R, es, ep, t, W, g⟩ q
    have lt : i < n := by omega
    refine codeAny_builtin F.entry_set_update_loop ?_
    rw [Around.under_plainId F.plain_set_update_loop _]
    show wpAny _ A.in1 (pyNext (.ref I) >>= _) _ _ s
    refine wpAny_bind (V.item i s _ _ lt st fun v s' hP st' m => ?_)
    obtain ⟨p, hp, rfl⟩ := hv i v hP
    have kp' := on m kp
    have W' : Sw P w s'.heap S R es ep t := W.stay (fun o e => m.heap S o sw e) fun r hr => isT_keep (hk _ (inks g r hr)) kp'
    have hx : IsT P w s'.heap p.2 p.1 := isT_keep (hk p (List.mem_of_getElem? hp)) kp'
    have fw := few_of (D := D) W.nd fun k hk => by
      obtain ⟨r, h1, h2⟩ := List.mem_map.mp hk
      rw [← h2]
      exact dm _ (inks g r h1)
    show wpAny _ A.in1 (holding [Value.ref p.1] (setAdd S (.ref p.1)) >>= _) _ _ s'
    refine wpAny_bind (wpAny_holding ?_)
    unfold setAdd
    refine wpAny_holding (wpAny_bind (wpAny_pyHash_tuple hu hx ?_))
    refine addW (s := { s' with toks := s'.toks + (p.2.length + 1) }) W' hx hu (by omega) fun b h' R' es' ep' t' sb W2 c1 c2 => ?_
    have g' : Got ks (i + 1) (pk R') := by
      by_cases c : p.2 ∈ R.map Sl.k
      · rw [c1 c]
        exact g.same hp (by rw [pk_k]; exact c)
      · exact g.more hp (c2 c)
    have kp2 : ∀ b o, h0.get? b = some o → h'.get? b = some o := fun b o e => (sb.2 b (fun z => by rw [z, s0] at e; cases e)).trans (kp' b o e)
    refine wpAny_pure ⟨plainId_quiet F.plain_set_update_loop _, ih (i + 1) _ (by omega) lt (V.frame _ s' _ _ st' (Nat.le_add_right _ _) fun b hb o e => ?_) kp2 ⟨R', es', ep', t', W2, g'⟩ fun s2 R2 es2 ep2 t2 m2 W3 g3 kp3 => ?_⟩
    · rw [sb.2 b fun z : b = S => sf (z ▸ hb)]
      exact e
    · refine q s2 R2 es2 ep2 t2 (Moved.trans V.gtrans ((m.mono sub1).then_heap (Nat.le_add_right _ _) fun b o hb e => ?_) m2) W3 g3 kp3
      rw [sb.2 b fun z : b = S => hb (z ▸ List.mem_cons_self)]
      exact e
set_option maxHeartbeats 4000000 in
theorem setOfTups {l : Addr} {xs : Array Value} (ks : List (Addr × List Int)) {Q : Value → Shared → Prop} (hA : A.handled = none) (hl : s.heap.IsList l xs) (hx : xs.toList = ks.map fun p => Value.ref p.1) (hk : ∀ p ∈ ks, IsT P w s.heap p.2 p.1)
    (D : List (List Int)) (dl : D.length < 300) (dm : ∀ p ∈ ks, p.2 ∈ D) (hu : A.units + 3 < cLine)
    (k : ∀ (g : Heap) (tk : Nat) R es ep t, Sw P w g s.heap.objs.size R es ep t → Got ks ks.length (pk R) → (∀ b o, s.heap.get? b = some o → g.get? b = some o) → Q (.ref s.heap.objs.size) { s with heap := g, toks := tk }) :
    wpAny (model P w) A (call (.type "set") [.ref l]) Q E s := by
  have xl : xs.size = ks.length := by
    have h := congrArg List.length hx
    rwa [Array.length_toList, List.length_map] at h
  obtain ⟨c0, tl, m1⟩ := F.called_set.mro
  have m2 := F.called_set.made
  have m3 := F.called_set.sub
  refine wpAny_call (codeAny_of_tree ?_)
  show wpAny _ _ (callAny (.type "set") _) _ _ _
  refine wpAny_pure ⟨Code.quiet_builtin _ (by decide +kernel), codeAny_builtin F.entry_type_call ?_⟩
  rw [Around.under_plain (weight_type_call_type "set" [.ref l] []) rfl]
  have m4 := F.called_set.notType
  have m5 := F.called_set.canCreate
  have m6 := F.typeCall_set_1 (.ref l)
  repeat (any_goals (first | assumption | wp_step))
  have hS : (s.heap.push (nwS w)).get? s.heap.objs.size = some (nwS w) := Heap.get?_push_size _ rfl
  refine codeAny_mono (code_set_led1 (.ref l) (E := E) (Q₁ := fun u z => u = .ref s.heap.objs.size ∧ z = { s with heap := s.heap.push (nwS w) }) ⟨rfl, rfl⟩) fun r z hr => ?_
  match r, hr with
  | .error e, hr => exact hr
  | .ok .next, hr => exact hr.elim
  | .ok .brk, hr => exact hr.elim
  | .ok .cont, hr => exact hr.elim
  | .ok (.ret u), hr =>
    obtain ⟨rfl, rfl⟩ := hr
    have hT : Shared.TypeIs { s with heap := s.heap.push (nwS w) } (.ref s.heap.objs.size) "set" := ⟨_, hS, rfl⟩
    have m7 := F.called_set.init.lookup
    have m8 := F.called_set.init.bind (.ref s.heap.objs.size)
    repeat (any_goals (first | assumption | wp_step))
    refine codeAny_mono (codeAny_call_builtin (R := wants (fun u z => u = .none ∧ ∃ g tk R es ep t, z = { s with heap := g, toks := tk } ∧ Sw P w g s.heap.objs.size R es ep t ∧ Got ks ks.length (pk R) ∧
        (∀ b o, s.heap.get? b = some o → g.get? b = some o)) E) F.called_set.init.plain F.entry_set_init (check_set_init_1 hT ?_)) fun r2 z2 hr2 => ?_
    · obtain ⟨⟨oc, od, dt, osl⟩, h1, h2, n, h3⟩ := hl
      simp only at h2 h3
      subst h2 h3
      have g1 : (s.heap.push (nwS w)).get? l = some { cls := .type "list", dict := od, data := .seq xs n, slots := osl } := Heap.get?_push_of_some _ h1
      have m9 := F.sub_list_set
      have m10 := F.sub_list_frozenset
      have m11 : (Value.type "list" == Value.type "dict") = false := by decide
      have hl1 : (s.heap.push (nwS w)).IsList l xs := ⟨_, g1, rfl, n, rfl⟩
      unfold Builtin.«set.__init__» noKeywords Builtin.Frozenset.updateFrom
      generalize hG : pyIter = G
      wp_walk
      subst hG
      refine wpAny_pyIter_list hl1 ?_
      refine wpAny_bind (wpAny_runValue ?_)
      have lt : l < s.heap.objs.size := Heap.lt_size h1
      have sz : (s.heap.push (nwS w)).objs.size = s.heap.objs.size + 1 := Heap.size_push ..
      have ne1 : l ≠ (s.heap.push (nwS w)).objs.size := by rw [sz]; exact Nat.ne_of_lt (Nat.lt_succ_of_lt lt)
      have nf : s.heap.objs.size ∉ [(s.heap.push (nwS w)).objs.size, l] := fun z => by
        rcases List.mem_cons.mp z with z | z
        · rw [sz] at z
          exact Nat.ne_of_lt (Nat.lt_succ_self _) z
        · exact Nat.ne_of_gt lt (List.mem_singleton.mp z)
      have hv : ∀ (i : Nat) (v : Value), xs[i]? = some v → ∃ p, ks[i]? = some p ∧ v = .ref p.1 := fun i v e => by
        rw [← Array.getElem?_toList, hx, List.getElem?_map] at e
        obtain ⟨p, e1, e2⟩ := Option.map_eq_some_iff.mp e
        exact ⟨p, e1, e2.symm⟩
      have no : ∀ b, s.heap.objs.size ≤ b → s.heap.get? b = none := fun b hb => by
        cases q : s.heap.get? b with
        | none => rfl
        | some o => exact absurd (Nat.lt_of_lt_of_le (Heap.lt_size q) hb) (Nat.lt_irrefl _)
      refine updW ((Walks.list (show A.in1.in1.in1.handled = none by simp [hA]) _ l ne1 xs).toS) s.heap.objs.size nf ks xl D dl dm hv s.heap hk (no _ (Nat.le_refl _)) (fun b hb => no b (by
          rw [List.mem_singleton.mp hb, sz]
          exact Nat.le_succ _)) hu (xs.size - 0) 0 _ (by omega) (Nat.zero_le _) ⟨⟨_, Heap.get?_push_size _ rfl, rfl, rfl⟩, (hl1.push _)⟩ (fun b o e => Heap.get?_push_of_some _ (Heap.get?_push_of_some _ e)) ⟨[], #[], 0, _, freshW (Heap.get?_push_of_some _ hS), Got.zero ks⟩ ?_
      rintro ⟨g, gs, dr, tk, os⟩ R es ep t mv W gt kp
      obtain rfl : gs = s.gens := mv.gens
      obtain rfl : dr = s.drawn := mv.drawn
      obtain rfl : os = s.os := mv.os
      show wpAny _ _ _ _ _ _
      refine wpAny_pure ?_
      show wpAny _ _ (ret Value.none) _ _ _
      rw [xl] at gt
      exact wpAny_pure ⟨rfl, g, tk, R, es, ep, t, rfl, W, gt, kp⟩
    · match r2, hr2 with
      | .error e, hr2 => exact hr2
      | .ok .next, hr2 => exact hr2.elim
      | .ok .brk, hr2 => exact hr2.elim
      | .ok .cont, hr2 => exact hr2.elim
      | .ok (.ret u), hr2 =>
        obtain ⟨rfl, g, tk, R, es, ep, t, rfl, q1, q2, q3⟩ := hr2
        repeat (any_goals (first | assumption | wp_step))
        exact k _ _ _ _ _ _ q1 q2 q3
theorem IsT.pair {h : Heap} {b : Addr} {i j : Int} (x : IsT P w h [i, j] b) : Srt.IsPair h (.ref b) i j := by
  obtain ⟨v, ⟨its⟩, e, ⟨o, o1, o2, n, o3⟩, q⟩ := tupInts_of x
  change IntsAre its [i, j] at q
  cases e
  cases q with
  | cons _ t1 q =>
    cases q with
    | cons _ t2 q =>
      cases q
      exact ⟨_, o, t1, t2, n, rfl, o1, o2, o3⟩
end
end Wc

/-! WmS: sorted(set(pairs)). -/
namespace Wc
open PySem PySem.Spec PyProof.Rows L2
def lexP (p q : Int × Int) : Prop := p.1 < q.1 ∨ (p.1 = q.1 ∧ p.2 < q.2)
def two (k : List Int) : Int × Int := (k.getD 0 0, k.getD 1 0)
def adV : Value → Addr
  | .ref a => a
  | _ => 0
section
variable {P : Program} {w : World} {A : Around} {E : Value → Shared → Prop} {s : Shared}
theorem sortedOfTups {a : Addr} {R : List Sl} {es : Array (Int × Value)} {ep : Nat} {t : SetTable} {Q : Value → Shared → Prop} (W : Sw P w s.heap a R es ep t) (hA : A.handled = none) (h2 : ∀ r ∈ R, ∃ i j, r.k = [i, j]) (few : R.length < 300)
    (q : ∀ z p (c : Nat) (L : List (Addr × List Int)), (∀ b o, s.heap.get? b = some o → z.heap.get? b = some o) → z.gens = s.gens → z.os = s.os → s.heap.objs.size ≤ p →
      z.heap.get? p = some (seqObj "list" (L.map fun x => Value.ref x.1).toArray c) → L.Perm (pk R) → (L.map fun x => two x.2).Pairwise lexP → Q (.ref p) z) :
    wpAny (model P w) A (call (.builtin "sorted") [.ref a]) Q E s := by
  obtain ⟨o, o1, o2, o3⟩ := W.ob
  refine Calls.call_function_entry kind_sorted plain_sorted entry_sorted (args_sorted1 _) ?_
  unfold Builtin.«sorted»
  refine wpAny_bind (m := checkCount "sorted" 1 1 _) (wpAny_pure ?_)
  refine wpAny_bind (collect_set (A := A.in1) hA ⟨o, o1, o2.1, o3⟩ W.fits (by rw [W.size]; unfold scanBound; omega) W.tab.ris W.led fun s1 vs k1 hz hg ho pm => ?_)
  have ev : es.toList.map (·.2) = R.map fun r => Value.ref r.a := by
    rw [W.rows, List.map_map]
    rfl
  rw [ev] at pm
  have vl : vs.length = R.length := pm.length_eq.trans (by rw [List.length_map])
  refine wpAny_bind (wpAny_newList ?_ (by rw [vl, sizeLine_eq]; omega))
  have hL : (s1.heap.push (seqObj "list" vs.toArray 0)).get? s1.heap.objs.size = some (seqObj "list" vs.toArray 0) := Heap.get?_push_size _ rfl
  have tk : ∀ r ∈ R, IsT P w (s1.heap.push (seqObj "list" vs.toArray 0)) r.k r.a := fun r hr => isT_keep (W.tup r hr) fun b u e => Heap.get?_push_of_some _ (k1 b u e)
  generalize hH : s1.heap.push (seqObj "list" vs.toArray 0) = HH at hL tk ⊢
  have iO : ∀ r ∈ R, TS.intsOf HH (.ref r.a) = r.k := fun r hr => (tupInts_of (tk r hr)).ints
  have pr : ∀ v ∈ vs, Srt.IsPair HH v (two (TS.intsOf HH v)).1 (two (TS.intsOf HH v)).2 := fun v hv => by
    obtain ⟨r, hr, rfl⟩ := List.mem_map.mp (pm.mem_iff.mp hv)
    obtain ⟨i, j, e⟩ := h2 r hr
    have z := tk r hr
    rw [iO r hr]
    rw [e] at z ⊢
    exact IsT.pair z
  refine wpAny_bind (wpAny_holding (wpAny_call_entry slot_list_sort ⟨_, hL, rfl⟩ entry_list_sort (SrtO.list_sort_ord (s := { s1 with heap := HH }) (SrtO.swo_lex fun v => two (TS.intsOf HH v)) hL (by rw [vl, sizeLine_eq]; omega)
    (fun g2 => SrtO.pairs_sortableO (s := { s1 with heap := HH }) (by omega) pr fun o' e' => ?_) fun out g1 g2 => ⟨_, rfl, ?_⟩) (args_list_sort _)))
  · have z : some o' = some (seqObj "list" vs.toArray 0) := e'.symm.trans hL
    obtain rfl := Option.some.inj z
    show (Value.type "list") ≠ .type "tuple"
    decide
  obtain ⟨c, hc⟩ := sortedHeap_at (vs := vs) (out := out.toArray) hL
  have po : out.Perm (R.map fun r => Value.ref r.a) := g2.perm.trans pm
  have rf : ∀ v ∈ out, Value.ref (adV v) = v := fun v hv => by
    obtain ⟨r, _, rfl⟩ := List.mem_map.mp (po.mem_iff.mp hv)
    rfl
  have e1 : (out.map fun v => (adV v, TS.intsOf HH v)).map (fun x => Value.ref x.1) = out := by
    rw [List.map_map]
    refine (List.map_congr_left fun v hv => ?_).trans (List.map_id _)
    exact rf v hv
  have e2 : (out.map fun v => (adV v, TS.intsOf HH v)).Perm (pk R) := by
    have z := po.map fun v => (adV v, TS.intsOf HH v)
    rw [List.map_map] at z
    refine z.trans (List.Perm.of_eq (List.map_congr_left fun r hr => ?_))
    show (r.a, TS.intsOf HH (.ref r.a)) = _
    rw [iO r hr]
  have e3 : ((out.map fun v => (adV v, TS.intsOf HH v)).map fun x => two x.2).Pairwise lexP := by
    have n0 : ((out.map fun v => (adV v, TS.intsOf HH v)).map (·.2)).Nodup := (e2.map (·.2)).nodup_iff.mpr (by rw [pk_k]; exact W.nd)
    rw [List.map_map] at n0 ⊢
    have n1 := List.pairwise_map.mp n0
    refine List.pairwise_map.mpr ((g1.and n1).imp_of_mem fun {u v} hu hv hh => ?_)
    obtain ⟨r, r1, rfl⟩ := List.mem_map.mp (po.mem_iff.mp hu)
    obtain ⟨r', r2, rfl⟩ := List.mem_map.mp (po.mem_iff.mp hv)
    have x1 := SrtO.lexB_no.mp hh.1
    have x2 : TS.intsOf HH (.ref r.a) ≠ TS.intsOf HH (.ref r'.a) := hh.2
    show lexP (two (TS.intsOf HH (.ref r.a))) (two (TS.intsOf HH (.ref r'.a)))
    obtain ⟨i, j, h3⟩ := h2 r r1
    obtain ⟨i', j', h4⟩ := h2 r' r2
    rw [iO r r1, iO r' r2, h3, h4] at x1 x2 ⊢
    have x3 : ¬ (i = i' ∧ j = j') := fun z => x2 (by rw [z.1, z.2])
    simp only [two, lexP, List.getD_cons_zero, List.getD_cons_succ] at x1 ⊢
    omega
  refine wpAny_pure ⟨_, rfl, q _ s1.heap.objs.size c (out.map fun v => (adV v, TS.intsOf HH v)) (fun b u e => ?_) hg ho hz (by rw [e1]; exact hc) e2 e3⟩
  have lt := Heap.lt_size (k1 b u e)
  show (sortedHeap HH s1.heap.objs.size vs out.toArray).get? b = some u
  subst hH
  rw [sortedHeap_old (Nat.ne_of_lt lt) (by rw [size_push']; exact Nat.lt_succ_of_lt lt)]
  exact Heap.get?_push_of_some _ (k1 b u e)
end
def pp (p : Int × Int) : Dt := .tuple [.int p.1, .int p.2]
def tSortedSetP (K : Fg) (ta : TE) : TE := fun σ H Q => ta σ H fun x H1 => ∃ (l : Addr) (xs : List V) (ps D : List (Int × Int)), x = .ref l ∧ SqL K H1 l xs ∧ DpAll K H1 xs (ps.map pp) ∧ D.length < 300 ∧ (∀ p ∈ ps, p ∈ D) ∧
  ∀ (ms : List (Int × Int)) (ys : List V) (p : Addr), ms.Pairwise lexP → (∀ q, q ∈ ms ↔ q ∈ ps) → DpAll K H1 ys (ms.map pp) → H1 p = none → Q (.ref p) (upd H1 p (.lst ys))
theorem pairs_ks {K : Fg} {H : Hp} : ∀ {ps : List (Int × Int)} {xs : List V}, DpAll K H xs (ps.map pp) →
    ∃ ks : List (Addr × List Int), xs = ks.map (fun p => V.ref p.1) ∧ ks.map (·.2) = ps.map (fun p => [p.1, p.2]) ∧ ∀ q ∈ ks, SqT K H q.1 (q.2.map V.int)
  | [], _, h => by cases h; exact ⟨[], rfl, rfl, nofun⟩
  | p :: ps, _, h => by
    cases h with
    | cons a b =>
      obtain ⟨ks, e1, e2, e3⟩ := pairs_ks b
      obtain ⟨ad, us, e4, h1, h2⟩ := dp_tup a
      have e5 := of_dps_ints (ns := [p.1, p.2]) h2
      refine ⟨(ad, [p.1, p.2]) :: ks, by rw [List.map_cons, e4, e1], by rw [List.map_cons, List.map_cons, e2], fun q hq => ?_⟩
      rcases List.mem_cons.mp hq with e | hq
      · rw [e]
        show SqT K H ad ([p.1, p.2].map V.int)
        rw [← e5]
        exact h1
      · exact e3 q hq
theorem dps_two {K : Fg} {H : Hp} : ∀ {L : List (Addr × List Int)}, (∀ q ∈ L, SqT K H q.1 (q.2.map V.int) ∧ ∃ i j, q.2 = [i, j]) → DpAll K H (L.map fun q => V.ref q.1) ((L.map fun q => two q.2).map pp)
  | [], _ => .nil
  | q :: L, h => by
    obtain ⟨h1, i, j, e⟩ := h q List.mem_cons_self
    refine .cons ?_ (dps_two fun q hq => h q (List.mem_cons_of_mem _ hq))
    show Dp K H (.ref q.1) (pp (two q.2))
    rw [e] at h1 ⊢
    exact .tup h1 (dps_ints [i, j])
theorem pe_sortedSetP {X : Cx} {K : Fg} (hK : X.K = K) {a : Expr} {ta : TE} {p p2 q pos : Pos} (hc : X.calm = true) (hu : X.A.units + 64 < cLine) (hg : Gl X "sorted") (hm : X.mg "sorted" = none) (hg2 : Gl X "set") (hm2 : X.mg "set" = none) (ha : PE X a ta)
    (na : starEach [a] X.env = (false, eval a X.env) :: starEach [] X.env := by rfl) : PE X (.Call (.Name "sorted" p) [.Call (.Name "set" p2) [a] [] q] [] pos) (tSortedSetP K ta) := by
  subst hK
  refine ⟨fun pins s σ H Q I h => ?_⟩
  refine Call_ (ld_blt I hg hm PyProof.Rows.boot_sorted ?_)
  refine PyProof.Rows.callWith_builtin1 (PyProof.Rows.args_cons ?_ rfl) rfl rfl
  refine Call_ (ld_blt I hg2 hm2 PyProof.Rows.boot_set ?_)
  refine PyProof.Rows.callWith_type1 (PyProof.Rows.args_cons (thn (ha.run pins s σ H _ I h) fun v s1 ⟨x, H1, I1, r1, q1⟩ => PyProof.Rows.args_nil ?_) na) na rfl
  obtain ⟨l, xs, ps, D, rfl, hq, hd, hl, hD, q1⟩ := q1
  cases r1
  obtain ⟨ks, e1, e2, e3⟩ := pairs_ks hd
  obtain ⟨its, r, hp, hz⟩ := I1.list hq
  rw [e1] at r
  have kk : ∀ k ∈ ks, ∃ p ∈ ps, k.2 = [p.1, p.2] := fun k hk => by
    have z : k.2 ∈ ps.map (fun p => [p.1, p.2]) := by rw [← e2]; exact List.mem_map.mpr ⟨k, hk, rfl⟩
    obtain ⟨p, h1, h2⟩ := List.mem_map.mp z
    exact ⟨p, h1, h2.symm⟩
  refine setOfTups ks (I1.ok.hd hc) hp.isList (by simpa using refs_of_vals r) (fun k hk => I1.isT (e3 k hk)) (D.map fun p => [p.1, p.2]) (by rw [List.length_map]; exact hl) (fun k hk => by
    obtain ⟨p, h1, h2⟩ := kk k hk
    rw [h2]
    exact List.mem_map.mpr ⟨p, hD p h1, rfl⟩) (by show X.A.units + 3 < cLine; omega) fun g tk R es ep t W gt hk => ?_
  have I2 : Inv X pins σ H1 { s1 with heap := g, toks := tk } := I1.kept hk
  have mk : ∀ q ∈ pk R, q ∈ ks := fun q hq => List.mem_of_mem_take (gt.sub q hq)
  refine PyProof.Rows.args_nil ?_
  have few : R.length < 300 := by
    have z := few_of (D := D.map fun p => [p.1, p.2]) W.nd fun k hk => by
      obtain ⟨r, h1, h2⟩ := List.mem_map.mp hk
      obtain ⟨p, h3, h4⟩ := kk _ (mk _ (pk_mem h1))
      rw [← h2, show r.k = _ from h4]
      exact List.mem_map.mpr ⟨p, hD p h3, rfl⟩
    rw [List.length_map] at z
    omega
  refine sortedOfTups (s := { s1 with heap := g, toks := tk }) W (I2.ok.hd hc) (fun r hr => by
    obtain ⟨p, _, h2⟩ := kk _ (mk _ (pk_mem hr))
    exact ⟨_, _, h2⟩) few fun z b c L k1 hgn hos hb ho pm pw => ?_
  have hfr : H1 b = none := I2.hok.fresh hb
  have mL : ∀ q ∈ L, q ∈ ks := fun q hq => mk q (pm.mem_iff.mp hq)
  have hle : (L.map fun q => V.ref q.1).length ≤ sizeLine := by rw [List.length_map, pm.length_eq, pk_len, sizeLine_eq]; omega
  have J : Inv X pins σ (upd H1 b (.lst (L.map fun q => V.ref q.1))) { s1 with heap := z.heap, gens := z.gens, drawn := z.drawn, toks := z.toks } :=
    Inv.call (s := { s1 with heap := g, toks := tk }) I2 (ch := []) (Un.laid k1 hb hfr) (I2.hok.laid k1 hb ⟨hle, L.map (fun q => Value.ref q.1), c, vals_of_refs L, ho⟩) (by rw [hgn]; exact I2.bare) (fun _ y => nomatch y)
  have ez : z = { s1 with heap := z.heap, gens := z.gens, drawn := z.drawn, toks := z.toks } := by
    cases z
    cases s1
    cases hos
    rfl
  rw [ez]
  refine ⟨.ref b, _, J, rfl, q1 (L.map fun q => two q.2) (L.map fun q => V.ref q.1) b pw (fun x => ?_) (dps_two fun q hq => ⟨e3 q (mL q hq), ?_⟩) hfr⟩
  · constructor
    · intro hx
      obtain ⟨y, h1, rfl⟩ := List.mem_map.mp hx
      obtain ⟨p, h3, h4⟩ := kk y (mL y h1)
      rw [h4]
      exact h3
    · intro hx
      have z1 : [x.1, x.2] ∈ ks.map (·.2) := by rw [e2]; exact List.mem_map.mpr ⟨x, hx, rfl⟩
      obtain ⟨y, h1, h2⟩ := List.mem_map.mp z1
      have z2 := gt.all y (by rw [List.take_length]; exact h1)
      obtain ⟨y2, h3, h4⟩ := List.mem_map.mp z2
      refine List.mem_map.mpr ⟨y2, pm.mem_iff.mpr h3, ?_⟩
      rw [h4, h2]
      rfl
  · obtain ⟨p, _, h4⟩ := kk q (mL q hq)
    exact ⟨_, _, h4⟩
/-! ### as data -/
def insP (x : Int × Int) : List (Int × Int) → List (Int × Int)
  | [] => [x]
  | y :: r => if x.1 < y.1 ∨ (x.1 = y.1 ∧ x.2 < y.2) then x :: y :: r else if x.1 = y.1 ∧ x.2 = y.2 then y :: r else y :: insP x r
def setP : List (Int × Int) → List (Int × Int)
  | [] => []
  | x :: r => insP x (setP r)
theorem insP_mem (x y : Int × Int) : ∀ l, y ∈ insP x l ↔ y = x ∨ y ∈ l
  | [] => by rw [insP, List.mem_singleton]; simp
  | z :: r => by
    rw [insP]
    by_cases h : x.1 < z.1 ∨ (x.1 = z.1 ∧ x.2 < z.2)
    · rw [if_pos h, List.mem_cons]
    · rw [if_neg h]
      by_cases h' : x.1 = z.1 ∧ x.2 = z.2
      · rw [if_pos h']
        have : x = z := Prod.ext h'.1 h'.2
        subst this
        rw [List.mem_cons]
        constructor
        · exact .inr
        · rintro (e | e)
          · exact .inl e
          · exact e
      · rw [if_neg h', List.mem_cons, List.mem_cons, insP_mem x y r]
        constructor
        · rintro (e | e | e) <;> simp [e]
        · rintro (e | e | e) <;> simp [e]
theorem setP_mem (y : Int × Int) : ∀ l, y ∈ setP l ↔ y ∈ l
  | [] => Iff.rfl
  | x :: r => by rw [setP, insP_mem, setP_mem y r, List.mem_cons]
theorem insP_asc (x : Int × Int) : ∀ {l : List (Int × Int)}, l.Pairwise lexP → (insP x l).Pairwise lexP
  | [], _ => List.pairwise_singleton _ _
  | y :: r, h => by
    obtain ⟨h1, h2⟩ := List.pairwise_cons.mp h
    rw [insP]
    by_cases c : x.1 < y.1 ∨ (x.1 = y.1 ∧ x.2 < y.2)
    · rw [if_pos c]
      refine List.pairwise_cons.mpr ⟨fun z hz => ?_, h⟩
      rcases List.mem_cons.mp hz with e | hz
      · rw [e]; exact c
      · have := h1 z hz
        unfold lexP at this ⊢
        omega
    · rw [if_neg c]
      by_cases c' : x.1 = y.1 ∧ x.2 = y.2
      · rw [if_pos c']
        exact h
      · rw [if_neg c']
        refine List.pairwise_cons.mpr ⟨fun z hz => ?_, insP_asc x h2⟩
        rcases (insP_mem x z r).mp hz with e | hz
        · rw [e]
          unfold lexP
          omega
        · exact h1 z hz
theorem setP_asc : ∀ l : List (Int × Int), (setP l).Pairwise lexP
  | [] => List.Pairwise.nil
  | x :: r => insP_asc x (setP_asc r)
theorem lex_unique : ∀ {xs ys : List (Int × Int)}, xs.Pairwise lexP → ys.Pairwise lexP → (∀ j, j ∈ xs ↔ j ∈ ys) → xs = ys
  | [], [], _, _, _ => rfl
  | [], y :: ys, _, _, h => by have := (h y).mpr List.mem_cons_self; cases this
  | x :: xs, [], _, _, h => by have := (h x).mp List.mem_cons_self; cases this
  | x :: xs, y :: ys, hx, hy, h => by
    obtain ⟨x1, x2⟩ := List.pairwise_cons.mp hx
    obtain ⟨y1, y2⟩ := List.pairwise_cons.mp hy
    have irr : ∀ {a b : Int × Int}, lexP a b → lexP b a → False := fun {a b} p q => by unfold lexP at p q; omega
    have e : x = y := by
      rcases List.mem_cons.mp ((h x).mp List.mem_cons_self) with e | m
      · exact e
      · rcases List.mem_cons.mp ((h y).mpr List.mem_cons_self) with e | m'
        · exact e.symm
        · exact (irr (y1 x m) (x1 y m')).elim
    subst e
    congr 1
    refine lex_unique x2 y2 fun j => ⟨fun m => ?_, fun m => ?_⟩
    · rcases List.mem_cons.mp ((h j).mp (List.mem_cons_of_mem _ m)) with e | m'
      · rw [e] at m
        exact (irr (x1 x m) (x1 x m)).elim
      · exact m'
    · rcases List.mem_cons.mp ((h j).mpr (List.mem_cons_of_mem _ m)) with e | m'
      · rw [e] at m
        exact (irr (y1 x m) (y1 x m)).elim
      · exact m'
def pairsOf : List Dt → Option (List (Int × Int))
  | [] => some []
  | .tuple [.int i, .int j] :: r => (pairsOf r).map ((i, j) :: ·)
  | _ :: _ => none
theorem pairsOf_eq : ∀ {ds : List Dt} {ps : List (Int × Int)}, pairsOf ds = some ps → ds = ps.map pp
  | [], _, h => by cases h; rfl
  | d :: r, ps, h => by
    unfold pairsOf at h
    split at h
    · rename_i e; cases e
    · rename_i i j r' e
      cases e
      cases q : pairsOf r with
      | none => rw [q] at h; cases h
      | some zs =>
        rw [q] at h
        cases h
        rw [pairsOf_eq q]
        rfl
    · cases h
@[simp] theorem pairsOf_map : ∀ ps : List (Int × Int), pairsOf (ps.map pp) = some ps
  | [] => rfl
  | p :: r => by
    show (pairsOf (r.map pp)).map ((p.1, p.2) :: ·) = _
    rw [pairsOf_map r]
    rfl
def hSortSetP : Dt → O Dt
  | .list ds => match pairsOf ds with
    | some ps => if (setP ps).length < 300 then .ok (.list ((setP ps).map pp)) else .no
    | none => .no
  | _ => .no
section
variable {K : Fg} {E : XS} {te : TE} {a : MP}
theorem yn_ssetP (ha : YT K E te a) : YN K E (tSortedSetP K te) (pUn hSortSetP a) := fun B M o σ ρ H R H1 e1 Q k =>
  ha B M o σ ρ H R H1 e1 _ (O.go_mono (O.go_bind.mp k) (fun x kx v H2 e2 p2 => by
    cases x with
    | list ds =>
      unfold hSortSetP at kx
      dsimp only at kx
      split at kx
      · rename_i ps q
        split at kx
        · rename_i hl
          obtain rfl := pairsOf_eq q
          obtain ⟨l, xs, rfl, h1, h2⟩ := dp_lst p2
          refine ⟨l, xs, ps, setP ps, rfl, h1, h2, hl, fun p hp => (setP_mem p ps).mpr hp, fun ms ys p z1 z2 z3 hp => ?_⟩
          have em := lex_unique z1 (setP_asc ps) fun j => (z2 j).trans (setP_mem j ps).symm
          subst em
          exact kx _ _ (e2.trans (Evl.Ex.new hp)) ⟨p, ys, _, rfl, rfl, Evl.fresh_back e2 hp, upd_same, dps_ex (Evl.Ex.new hp) z3⟩
        · exact kx.elim
      · exact kx.elim
    | _ => exact kx.elim) fun _ z => z)
end
end Wc

/-! WmT: more rules: xs[i] += n, len(set(a tuple)), f-strings, partition. -/
namespace Wc
open PySem PySem.Spec PyProof.Rows L2
theorem get_list {X : Cx} : PGet X (rIxL X.K) := by
  intro pins s σ H o i ov iv Q I r1 r2 h
  obtain ⟨p, xs, n, z, rfl, rfl, hq, he, q⟩ := h
  cases r1
  obtain ⟨t, rfl⟩ := r2
  obtain ⟨its, r, pl, hz⟩ := I.list hq
  obtain ⟨j, h1, h2, h3, h4, h5⟩ := atI_get he
  obtain ⟨w, ew, rw'⟩ := r.get h2
  have hl := r.length
  have hn := line63
  have fin : EP X pins σ Q w s := ⟨z, H, I, rw', q⟩
  by_cases h0 : 0 ≤ n
  · have hj : n.toNat = j := by
      rw [seqIndex_of h0 h5] at h1
      exact Option.some.inj h1
    exact wpAny_getItem_list pl.isList h0 (by omega) (by rw [hj]; simpa using ew) fin
  · have hj : (n + (its.toArray.size : Int)).toNat = j := by
      rw [seqIndex_neg (by omega) h4] at h1
      rw [List.size_toArray, ← hl]
      exact Option.some.inj h1
    exact wpAny_getItem_list_neg pl.isList (by omega) (by rw [List.size_toArray]; omega) (by omega) (by rw [hj]; simpa using ew) fin
/-! ### len(set(a tuple of ints)) -/
def tLenSetT (K : Fg) (ta : TE) : TE := fun σ H Q => ta σ H fun x H1 => ∃ (l : Addr) (ns : List Int), x = .ref l ∧ SqT K H1 l (ns.map V.int) ∧ ns.length ≤ 4000 ∧
  ∀ ms : List Int, ms.Nodup → (∀ j, j ∈ ms ↔ j ∈ ns) → Q (.int (ms.length : Nat)) H1
theorem pe_lenSetT {X : Cx} {K : Fg} (hK : X.K = K) {a : Expr} {ta : TE} {p p2 q pos : Pos} (hc : X.calm = true) (hg : Gl X "len") (hm : X.mg "len" = none) (hg2 : Gl X "set") (hm2 : X.mg "set" = none) (ha : PE X a ta)
    (na : starEach [a] X.env = (false, eval a X.env) :: starEach [] X.env := by rfl) : PE X (.Call (.Name "len" p) [.Call (.Name "set" p2) [a] [] q] [] pos) (tLenSetT K ta) := by
  subst hK
  refine ⟨fun pins s σ H Q I h => ?_⟩
  refine Call_ (ld_blt I hg hm PySem.boot_len ?_)
  refine PyProof.Rows.callWith_builtin1 (PyProof.Rows.args_cons ?_ rfl) rfl rfl
  refine Call_ (ld_blt I hg2 hm2 PyProof.Rows.boot_set ?_)
  refine PyProof.Rows.callWith_type1 (PyProof.Rows.args_cons (thn (ha.run pins s σ H _ I h) fun v s1 ⟨x, H1, I1, r1, q1⟩ => PyProof.Rows.args_nil ?_) na) na rfl
  obtain ⟨l, ns, rfl, hq, hl, q1⟩ := q1
  cases r1
  obtain ⟨its, r, ⟨o, o1, o2, n, o3⟩, hz⟩ := I1.tuple hq
  refine call_set_tupI ns (I1.ok.hd hc) ⟨o, o1, o2, n, o3⟩ (by simpa using r.ints) (by unfold scanBound; omega) fun g tk c R hcl hk => ?_
  have I2 : Inv X pins σ H1 { s1 with heap := g, toks := tk } := I1.kept hk
  refine PyProof.Rows.args_nil ?_
  obtain ⟨o, es, ep, t, z1, z2, z3, z4, z5, z6, z7, z8, z9, z10, z11⟩ := R
  refine call_len_set z1 z2 z3 z8 (by rw [z9]; omega) ⟨.int ((es.toList.map keyOf).length : Nat), H1, I2.tok _, ⟨_, by rw [List.length_map, Array.length_toList]⟩, q1 _ z5 fun j => ?_⟩
  rw [← z6 j]
  exact decide_eq_true_iff
def hLenSetT : Dt → O Dt
  | .tuple ds => match intsOf ds with
    | some ns => if ns.length ≤ 4000 then .ok (.int (setI ns).length) else .no
    | none => .no
  | _ => .no
section
variable {K : Fg} {E : XS} {te tb : TE} {a b : MP}
theorem yt_lsetT (ha : YT K E te a) : YT K E (tLenSetT K te) (pUn hLenSetT a) := fun B M o σ ρ H R H1 e1 Q k =>
  ha B M o σ ρ H R H1 e1 _ (O.go_mono (O.go_bind.mp k) (fun x kx v H2 e2 p2 => by
    cases x with
    | tuple ds =>
      unfold hLenSetT at kx
      dsimp only at kx
      split at kx
      · rename_i ns q
        split at kx
        · rename_i hl
          obtain rfl := intsOf_eq q
          obtain ⟨l, xs, rfl, h1, h2⟩ := dp_tup p2
          obtain rfl := of_dps_ints h2
          refine ⟨l, ns, rfl, h1, hl, fun ms z1 z2 => ?_⟩
          rw [nodup_len z1 (asc_nodup (setI_asc ns)) fun j => (z2 j).trans (setI_mem j ns).symm]
          exact kx _ _ e2 (.int _)
        · exact kx.elim
      · exact kx.elim
    | _ => exact kx.elim) fun _ z => z)
end
theorem hLenSetT_i {ns : List Int} (h : ns.length ≤ 4000) : hLenSetT (.tuple (ns.map .int)) = .ok (.int (setI ns).length) := by
  unfold hLenSetT
  dsimp only
  rw [intsOf_map]
  exact if_pos h
theorem pChain3_e {h h' h'' : Dt → Dt → O Dt} {a b c d : MP} {ρ : MEnv} : pChain3 h h' h'' a b c d ρ = (a ρ).bind fun x => (b ρ).bind fun y => (h x y).bind fun z => (asB z).bind fun k => bif k then ((c ρ).bind fun w => (h' y w).bind fun z' => (asB z').bind fun k' => bif k' then (d ρ).bind fun u => h'' w u else .ok (.bool false)) else .ok (.bool false) := rfl
theorem hSortSetP_pp {ps : List (Int × Int)} (h : (setP ps).length < 300) : hSortSetP (.list (ps.map pp)) = .ok (.list ((setP ps).map pp)) := by
  unfold hSortSetP
  dsimp only
  rw [pairsOf_map]
  exact if_pos h
/-! ### f-strings -/
abbrev MJ := MEnv → O (List Str)
def fmtD : Dt → O Str
  | .str y => if y.length ≤ 100000 then .ok y else .no
  | .int i => if i.natAbs.log2 < 1920 then .ok (toString i) else .no
  | _ => .no
def strD : Dt → O Str
  | .str y => .ok y
  | _ => .no
def jLit (s : Str) : MEnv → O Str := fun _ => .ok s
def jFmt (a : MP) : MEnv → O Str := fun ρ => (a ρ).bind fmtD
def jNil : MJ := fun _ => .ok []
def jCons (a : MEnv → O Str) (r : MJ) : MJ := fun ρ => (a ρ).bind fun x => (r ρ).nx.bind fun xs => .ok (x :: xs)
def jCat (acc : Str) : List Str → Str
  | [] => acc
  | y :: r => jCat (acc ++ y) r
def pJoin (m : MJ) : MP := fun ρ => (m ρ).bind fun ys => if (jCat Str.empty ys).length ≤ 100000 then .ok (.str (jCat Str.empty ys)) else .no
theorem jCat_len : ∀ (ys : List Str) (acc : Str), acc.length ≤ (jCat acc ys).length
  | [], acc => Nat.le_refl _
  | y :: r, acc => by
    have := jCat_len r (acc ++ y)
    rw [Str.length_append] at this
    show acc.length ≤ (jCat (acc ++ y) r).length
    omega
/-- a part: its text -/
def YP (K : Fg) (E : XS) (te : TE) (m : MEnv → O Str) : Prop := ∀ B M o σ ρ H, Rl K B M o σ ρ H → ∀ H1, Ex H H1 → ∀ Q : VK,
  (m ρ).go (fun y => ∀ H2, Ex H1 H2 → Q (.str y) H2) (fun x => ∀ H2, Ex H1 H2 → E σ (.ref (He.ga K x)) none H2) → te σ H1 Q
def YJ (K : Fg) (E : XS) (ts : List TE) (m : MJ) : Prop := ∀ B M o σ ρ H, Rl K B M o σ ρ H → ∀ H1, Ex H H1 → ∀ (acc : Str) (Q : Str → Hp → Prop),
  (m ρ).go (fun ys => (jCat acc ys).length ≤ 100000 ∧ ∀ H2, Ex H1 H2 → Q (jCat acc ys) H2) (fun x => ∀ H2, Ex H1 H2 → E σ (.ref (He.ga K x)) none H2) → tJs ts acc σ H1 Q
section
variable {K : Fg} {E : XS} {te tb : TE} {a b : MP} {ts : List TE}
theorem yj_lit {x : Str} : YP K E (tC (.str x)) (jLit x) := fun B M o σ ρ H R H1 e1 Q k => k H1 ex_rfl
theorem yj_fmt (h : YT K E te a) : YP K E (tFmt te) (jFmt a) := fun B M o σ ρ H R H1 e1 Q k => h B M o σ ρ H R H1 e1 _ (O.go_mono (O.go_bind.mp k) (fun d kd v H2 e2 p2 => by
  cases d with
  | str y =>
    unfold fmtD at kd
    dsimp only at kd
    split at kd
    · rename_i hl
      exact .inl ⟨y, dp_str p2, by rw [sizeLine_eq]; omega, kd _ e2⟩
    · exact kd.elim
  | int i =>
    unfold fmtD at kd
    dsimp only at kd
    split at kd
    · rename_i hl
      exact .inr ⟨i, dp_int p2, hl, kd _ e2⟩
    · exact kd.elim
  | _ => exact kd.elim) fun _ z => z)
theorem yj_nil : YJ K E [] jNil := fun B M o σ ρ H R H1 e1 acc Q k => k.2 H1 ex_rfl
theorem yj_cons {x : MEnv → O Str} {m : MJ} (h : YP K E te x) (r : YJ K E ts m) : YJ K E (te :: ts) (jCons x m) := fun B M o σ ρ H R H1 e1 acc Q k => h B M o σ ρ H R H1 e1 _ (O.go_mono (O.go_bind.mp k) (fun y ky H2 e2 => by
  have ky' := O.go_bind.mp ky
  refine ⟨y, rfl, ?_, r B M o σ ρ H R H2 (e1.trans e2) (acc ++ y) Q (O.go_mono (go_nx ky') (fun ys z => ⟨z.1, fun H3 e3 => z.2 H3 (e2.trans e3)⟩) fun x z => z.elim)⟩
  cases q : m ρ with
  | ok ys =>
    rw [q] at ky'
    have := ky'.1
    have l := jCat_len ys (acc ++ y)
    have e : jCat acc (y :: ys) = jCat (acc ++ y) ys := rfl
    rw [e] at this
    rw [sizeLine_eq]
    omega
  | ex z => rw [q] at ky'; exact ky'.elim
  | no => rw [q] at ky'; exact ky'.elim) fun _ z => z)
theorem yt_join {m : MJ} (h : YJ K E ts m) : YT K E (fun σ H Q => tJs ts Str.empty σ H fun out H1 => Q (.str out) H1) (pJoin m) := fun B M o σ ρ H R H1 e1 Q k => h B M o σ ρ H R H1 e1 Str.empty _ (O.go_mono (O.go_bind.mp k) (fun ys z => by
  split at z
  · rename_i hl
    exact ⟨hl, fun H2 e2 => z _ H2 e2 (.str _)⟩
  · exact z.elim) fun _ z => z)
end
/-! ### partition -/
def hPart : Dt → Dt → O Dt
  | .str a, .str b => if b.length ≠ 0 ∧ a.length ≤ 100000 then .ok (.tuple [.str (Txt.partition a b).1, .str (Txt.partition a b).2.1, .str (Txt.partition a b).2.2]) else .no
  | _, _ => .no
def pPart (a b : MP) : MP := fun ρ => (a ρ).bind fun x => (strD x).bind fun s => (b ρ).bind fun y => hPart (.str s) y
section
variable {K : Fg} {E : XS} {ta tb : TE} {a b : MP}
theorem yt_part (ha : YT K E ta a) (hb : YT K E tb b) : YT K E (tM1 (fun x xs H Q => ∃ a b, x = .str a ∧ xs = [.str b] ∧ (b.length == 0) = false ∧ a.length ≤ sizeLine ∧
      ∀ p, H p = none → Q (.ref p) (upd H p (.tup [.str (Txt.partition a b).1, .str (Txt.partition a b).2.1, .str (Txt.partition a b).2.2]))) ta tb) (pPart a b) := fun B M o σ ρ H R H1 e1 Q k =>
  ha B M o σ ρ H R H1 e1 _ (O.go_mono (O.go_bind.mp k) (fun x kx v H2 e2 p2 => by
    cases x with
    | str x =>
      refine ⟨⟨x, dp_str p2⟩, hb B M o σ ρ H R H2 (e1.trans e2) _ (O.go_mono (O.go_bind.mp kx) (fun y ky u H3 e3 p3 => ?_) fun x z H3 e3 => z H3 (e2.trans e3))⟩
      cases y with
      | str y =>
        unfold hPart at ky
        dsimp only at ky
        split at ky
        · rename_i hl
          refine ⟨x, y, dp_str p2, by rw [dp_str p3], beq_eq_false_iff_ne.mpr hl.1, by rw [sizeLine_eq]; omega, fun p hp => ky _ _ ((e2.trans e3).trans (Evl.Ex.new hp)) (Dp.tup (.inl (.inl upd_same)) (.cons (.str _) (.cons (.str _) (.cons (.str _) .nil))))⟩
        · exact ky.elim
      | _ => exact ky.elim
    | _ => exact kx.elim) fun _ z => z)
end
end Wc

/-! WmU: what a call hands on as it is; a list that is changed and dropped. -/
namespace Wc
open PySem PySem.Spec PyProof.Rows L2
abbrev MR := MEnv → O Rs
def YR (K : Fg) (E : XS) (te : TE) (m : MR) : Prop := ∀ B M o σ ρ H, Rl K B M o σ ρ H → ∀ H1, Ex H H1 → ∀ Q : VK,
  (m ρ).go (fun r => ∀ v H2, Ex H1 H2 → RtOk K H1 r v H2 → Q v H2) (fun x => ∀ H2, Ex H1 H2 → E σ (.ref (He.ga K x)) none H2) → te σ H1 Q
def rCall (m : MF) (a : MA) : MR := fun ρ => (a ρ).bind m
def rMake (F : MI') (a : MA) : MR := fun ρ => (a ρ).bind fun ds => (F ds).bind fun _ => .ok rsOpq
def rMakeM (F : MI') (G : MO) (a b : MA) : MR := fun ρ => (a ρ).bind fun ds => (F ds).bind fun r => (b ρ).bind fun es => (G r.1 r.2 [0] [] es).bind fun z => .ok z.1
def rIf (t : MB) (a b : MR) : MR := fun ρ => (t ρ).bind fun c => bif c then a ρ else b ρ
def sRetR (m : MR) : MS := fun ρ => ofO (m ρ) ρ fun r => .ret (.rt r ρ)
def sDropR (m : MR) : MS := fun ρ => ofO (m ρ) ρ fun _ => .ret (.nx ρ)
def sAppT (a b : MP) : MS := fun ρ => ofO ((a ρ).bind asL) ρ fun ds => ofO (b ρ) ρ fun _ => if ds.length < 100000 then .ret (.nx ρ) else .no
theorem rCall_e {m : MF} {a : MA} {ρ : MEnv} : rCall m a ρ = (a ρ).bind m := rfl
theorem rMake_e {F : MI'} {a : MA} {ρ : MEnv} : rMake F a ρ = (a ρ).bind fun ds => (F ds).bind fun _ => .ok rsOpq := rfl
theorem rMakeM_e {F : MI'} {G : MO} {a b : MA} {ρ : MEnv} : rMakeM F G a b ρ = (a ρ).bind fun ds => (F ds).bind fun r => (b ρ).bind fun es => (G r.1 r.2 [0] [] es).bind fun z => .ok z.1 := rfl
theorem rIf_e {t : MB} {a b : MR} {ρ : MEnv} : rIf t a b ρ = (t ρ).bind fun c => bif c then a ρ else b ρ := rfl
theorem sRetR_e {m : MR} {ρ : MEnv} : sRetR m ρ = ofO (m ρ) ρ fun r => .ret (.rt r ρ) := rfl
theorem sDropR_e {m : MR} {ρ : MEnv} : sDropR m ρ = ofO (m ρ) ρ fun _ => .ret (.nx ρ) := rfl
def evu := And.intro @rCall_e (And.intro @rMake_e (And.intro @rMakeM_e (And.intro @rIf_e (And.intro @sRetR_e @sDropR_e))))
section
variable {K : Fg} {E : XS} {te ta tb : TE} {tr ts : TA} {m : MF} {ma mb : MA} {a b : MP} {mr mr' : MR} {t : TT} {x : MB}
theorem rt_of {H H1 : Hp} {v : V} {ds : List Dt} {r : Rs} {Q : VK} {E0 : XK} (q : m ds = .ok r) {vs : List V} (p : DpAll K H vs ds) (kx : ∀ v H2, Ex H H2 → RtOk K H r v H2 → Q v H2) : spF K (FM m) vs H Q E0 := by
  cases r with
  | val d => exact ⟨ds, .val d, p, by unfold FM; rw [q], fun v H3 e3 p3 => kx v H3 e3 p3⟩
  | new es => exact ⟨ds, .new es, p, by unfold FM; rw [q], fun p xs H3 hp e3 h3 p3 => kx _ H3 e3 ⟨p, xs, rfl, hp, h3, p3⟩⟩
  | ob _ _ _ _ => exact ⟨ds, .opq, p, by unfold FM; rw [q], fun v H3 e3 => kx v H3 e3 trivial⟩
theorem rt_back {H H1 H2 : Hp} {r : Rs} {v : V} (e : ∀ p, H1 p = none → H p = none) (h : RtOk K H1 r v H2) : RtOk K H r v H2 := by
  cases r with
  | val d => exact h
  | new es =>
    obtain ⟨p, xs, h1, h2, h3⟩ := h
    exact ⟨p, xs, h1, e _ h2, h3⟩
  | ob _ _ _ _ => trivial
theorem yr_call (ha : YA K E tr ma) : YR K E (fun σ => tCall (spF K (FM m)) [] (E σ) tr σ) (rCall m ma) := fun B M o σ ρ H R H1 e1 Q k =>
  ha B M o σ ρ H R H1 e1 _ (O.go_mono (O.go_bind.mp k) (fun ds kx vs H2 e2 p2 => by
    rw [List.append_nil]
    cases q : m ds with
    | ok r =>
      rw [q] at kx
      exact rt_of (H1 := H1) (v := .non) q p2 fun v H3 e3 p3 => kx v H3 (e2.trans e3) (rt_back (fun p hp => Evl.fresh_back e2 hp) p3)
    | ex x =>
      rw [q] at kx
      exact ⟨ds, .exc x, p2, by unfold FM; rw [q], fun H3 e3 => kx H3 (e2.trans e3)⟩
    | no => rw [q] at kx; exact kx.elim) fun _ z => z)
theorem yr_callS (ha : YA K E tr ma) : YR K E (tCallS (spF K (FM m)) E tr) (rCall m ma) := fun B M o σ ρ H R H1 e1 Q k =>
  ha B M o σ ρ H R H1 e1 _ (O.go_mono (O.go_bind.mp k) (fun ds kx vs H2 e2 p2 => by
    cases q : m ds with
    | ok r =>
      rw [q] at kx
      exact rt_of (H1 := H1) (v := .non) q p2 fun v H3 e3 p3 => kx v H3 (e2.trans e3) (rt_back (fun p hp => Evl.fresh_back e2 hp) p3)
    | ex x =>
      rw [q] at kx
      exact ⟨ds, .exc x, p2, by unfold FM; rw [q], fun H3 e3 => kx H3 (e2.trans e3)⟩
    | no => rw [q] at kx; exact kx.elim) fun _ z => z)
theorem yr_if (ht : YB K E t x) (h1 : YR K E ta mr) (h2 : YR K E tb mr') : YR K E (tIf t ta tb) (rIf x mr mr') := fun B M o σ ρ H R H1 e1 Q k =>
  ht B M o σ ρ H R H1 e1 _ (O.go_mono (O.go_bind.mp k) (fun c kx H2 e2 => by
    cases c with
    | true => exact h1 B M o σ ρ H R H2 (e1.trans e2) Q (O.go_mono kx (fun r z v H3 e3 p => z v H3 (e2.trans e3) (rt_back (fun p hp => Evl.fresh_back e2 hp) p)) fun x z H3 e3 => z H3 (e2.trans e3))
    | false => exact h2 B M o σ ρ H R H2 (e1.trans e2) Q (O.go_mono kx (fun r z v H3 e3 p => z v H3 (e2.trans e3) (rt_back (fun p hp => Evl.fresh_back e2 hp) p)) fun x z H3 e3 => z H3 (e2.trans e3))) fun _ z => z)
theorem make_sp {F : MI'} {H1 : Hp} {vs : List V} {ds : List Dt} {Q : VK} {E0 : XK} (p1 : DpAll K H1 vs ds) {x0 dx : Addr} (hx : H1 x0 = none) (hdx : H1 dx = none) (nx : dx ≠ x0)
    (k : (F ds).go (fun r => ∀ H' a1 a2 gv, ObH K H' x0 dx a1 a2 gv r.1 r.2 [0] [] → H1 a1 = none → H1 a2 = none → Ex H1 H' → Dp K H' gv r.1 → Q (.ref x0) H') (fun y => ∀ H', Ex H1 H' → E0 (.ref (He.ga K y)) none H')) :
    spInit K F (.ref x0 :: (vs ++ [])) (L2.upd (L2.upd H1 dx (.own x0)) x0 (.ins (dC K) dx [])) (fun v H2 => v = .non ∧ Q (.ref x0) H2) E0 := by
  rw [List.append_nil]
  have e0 : Ex H1 (L2.upd (L2.upd H1 dx (.own x0)) x0 (.ins (dC K) dx [])) := fun b u hb => by
    have n1 : b ≠ x0 := fun z => by
      rw [z, hx] at hb
      cases hb
    have n2 : b ≠ dx := fun z => by
      rw [z, hdx] at hb
      cases hb
    rw [L2.upd_ne n1, L2.upd_ne n2]
    exact hb
  refine ⟨x0, dx, vs, ds, rfl, L2.upd_same, by rw [L2.upd_ne nx]; exact L2.upd_same, dps_ex e0 p1, ?_⟩
  refine O.go_mono k (fun r kr H' a1 a2 gv ho f1 f2 e hg => ⟨rfl, ?_⟩) fun y z H' e => z H' (e0.trans e)
  have eH : Ex H1 H' := fun b u hb => e b u (fun z => by rw [z, hx] at hb; cases hb) (e0 b u hb)
  exact kr H' a1 a2 gv ho (Evl.fresh_back e0 f1) (Evl.fresh_back e0 f2) eH ho.gear
theorem yr_make {F : MI'} (ha : YA K E tr ma) : YR K E (fun σ => tMake (dC K) (spInit K F) [] (E σ) tr σ) (rMake F ma) := fun B M o σ ρ H R H1 e1 Q k =>
  ha B M o σ ρ H R H1 e1 _ (O.go_mono (O.go_bind.mp k) (fun ds kx vs H2 e2 p2 => by
    intro x0 dx hx hdx nx
    have kx' := O.go_bind.mp kx
    refine make_sp (ds := ds) (F := F) p2 hx hdx nx (O.go_mono kx' (fun r z => ?_) (fun y z H' e => z H' (e2.trans e)))
    intro H' a1 a2 gv _ _ _ e _
    exact z (.ref x0) H' (e2.trans e) trivial) fun _ z => z)
theorem yr_makeM {F : MI'} {G : MO} {mt : Str} {E0 : XK} (ha : YA K (fun _ => E0) tr ma) (hb : YA K (fun _ => E0) ts mb) (hm : ∀ gv st a1 a2, (obF gv st a1 a2).lookup mt = none := by intros; rfl) :
    YR K (fun _ => E0) (tMeth (dC K) mt (spO K G) [] E0 (tMake (dC K) (spInit K F) [] E0 tr) ts) (rMakeM F G ma mb) := fun B M o σ ρ H R H1 e1 Q k =>
  ha B M o σ ρ H R H1 e1 _ (O.go_mono (O.go_bind.mp k) (fun ds kx vs H2 e2 p2 => by
    intro x0 dx hx hdx nx
    have kx' := O.go_bind.mp kx
    refine make_sp (ds := ds) (F := F) (Q := fun x H1 => ∃ a dx fs, x = V.ref a ∧ H1 a = some (HO.ins (dC K) dx fs) ∧ fs.lookup mt = none ∧ ts σ H1 fun vs H2 => spO K G (x :: (vs ++ [])) H2 Q E0) p2 hx hdx nx (O.go_mono kx' (fun r z => ?_) (fun y z H' e => z H' (e2.trans e)))
    intro H' a1 a2 gv ho f1 f2 e _
    refine ⟨x0, dx, _, rfl, ho.ins, hm _ _ _ _, hb B M o σ ρ H R H' ((e1.trans e2).trans e) _ (O.go_mono (O.go_bind.mp z) (fun es ky us H3 e3 p3 => ?_) fun y z H3 e3 => z H3 ((e2.trans e).trans e3))⟩
    rw [List.append_nil]
    have ho3 := ho.ex e3
    refine ⟨x0, us, dx, a1, a2, gv, r.1, r.2, [0], [], es, rfl, ho3, p3, O.go_mono (O.go_bind.mp ky) (fun z2 kz v H4 e4 _ _ ok => kz v H4 ?_ ?_) fun y z H4 e4 => z H4 (((e2.trans e).trans e3).trans e4)⟩
    · intro b u hb
      have hb3 : H3 b = some u := (e.trans e3) b u (e2 b u hb)
      have n1 : b ≠ a1 := fun z => by rw [z, Evl.fresh_back e2 f1] at hb; cases hb
      have n2 : b ≠ a2 := fun z => by rw [z, Evl.fresh_back e2 f2] at hb; cases hb
      exact e4 b u n1 n2 hb3
    · cases hz : z2.1 with
      | val d => rw [hz] at ok; exact ok
      | new zs =>
        rw [hz] at ok
        obtain ⟨p, xs, h1, h2, h3⟩ := ok
        exact ⟨p, xs, h1, Evl.fresh_back ((e2.trans e).trans e3) h2, h3⟩
      | ob _ _ _ _ => trivial) fun _ z => z)
theorem ys_retR (h : YR K E te mr) : YS K E (tRet te) (sRetR mr) := fun B M o σ ρ H D R k => h B M o σ ρ H R H ex_rfl _ (O.go_mono (ofO_all.mp k) (fun r z v H2 e2 p => z o σ H2 v (R.ex e2) (rt_back (fun p hp => R.base p hp) p)) fun x z H2 e2 => z o σ H2 (R.ex e2))
theorem ys_dropR (h : YR K E te mr) : YS K E (tDrop te) (sDropR mr) := fun B M o σ ρ H D R k => h B M o σ ρ H R H ex_rfl _ (O.go_mono (ofO_all.mp k) (fun r z v H2 e2 p => z o σ H2 (R.ex e2)) fun x z H2 e2 => z o σ H2 (R.ex e2))
theorem ys_appT (ha : YN K E ta a) (hb : YT K E tb b) : YS K E (tDrop (tBM K "list" rAppend ta (tCons tb tNil))) (sAppT a b) := fun B M o σ ρ H D R k => by
  have k1 := ofO_all.mp k
  refine ha B M o σ ρ H R H ex_rfl _ (O.go_mono (O.go_bind.mp k1) (fun d kd v H2 e2 p2 => ?_) fun x z H2 e2 => z o σ H2 (R.ex e2))
  obtain ⟨p, xs, ds, rfl, rfl, h0, h1, h2⟩ := p2
  refine ⟨tyv_l h1, hb B M o σ ρ H R H2 e2 _ (O.go_mono (ofO_all.mp (show (ofO (b ρ) ρ _).all _ _ from kd)) (fun d kd u H3 e3 p3 => ?_) fun x z H3 e3 => z o σ H3 (R.ex (e2.trans e3)))⟩
  split at kd
  · rename_i hl
    refine ⟨p, xs, u, rfl, rfl, e3 _ _ h1, Evl.sz_lt (by rw [dps_len h2]; exact hl), kd o σ _ (R.ex fun b w hb => ?_)⟩
    rw [upd_ne (fun z => by rw [z, h0] at hb; cases hb)]
    exact e3 _ _ (e2 _ _ hb)
  · exact kd.elim
end
/-- a method within a try -/
theorem yw_methS {K : Fg} {E : XS} {ta : TA} {i : Nat} {m : Str} {F : MO} {t : MX (List Dt)} (ha : YWA K E ta t) (hm : ∀ gv st a1 a2, (obF gv st a1 a2).lookup m = none := by intros; rfl) :
    YW K E (tMethS (dC K) m (spO K F) E (tVar i) ta) (wMeth i F t) := fun B M o σ ρ H R Q k => by
  obtain ⟨a, g, st, sp, ps, k, hc⟩ := obc_at R k
  obtain ⟨hs, dx, a1, a2, gv, ho, _⟩ := ob_at R hc
  refine ⟨.ref a, hs, a, dx, _, rfl, ho.ins, hm .., ha B M o σ ρ H R _ (T.all_mono (fun x kx o1 us H1 R1 p1 => ?_) (fun _ _ z => z) (w_all k))⟩
  obtain ⟨a', g', st', sp', ps', k1, hc1⟩ := obc_at R1 kx
  obtain ⟨hs1, dx', b1, b2, gv', ho1, hg1, hn1, o0, o1', o2, o3⟩ := ob_at R1 hc1
  rw [hs] at hs1
  cases hs1
  refine ⟨a, us, dx', b1, b2, gv', g', st', sp', ps', x.1, rfl, ho1, dps_ex hid_le p1, ?_⟩
  refine O.go_mono (ofO_all.mp k1) (fun r kr v H' e l1 l2 hr => ?_) (fun y z H' e => z o1 H' (R1.ex e))
  have kr' := ofO_all.mp kr
  obtain ⟨R2, eh⟩ := ob_step R1 hs ho1 hg1 hn1 o0 o1' o2 o3 e l1 l2
  cases q : rsFz r.1 with
  | ok d =>
    rw [q] at kr'
    exact kr' o1 v H' R2 (rs_fz (fun b j hb hz => by
      obtain ⟨u, w1, _⟩ := R1.live b j hb
      rw [hz] at w1
      cases w1) R2 hr q)
  | ex y => exact absurd q (rsFz_ex _ _)
  | no => rw [q] at kr'; exact kr'.elim
/-- a def without arguments whose outcome is always the same -/
theorem Df.calA {P : Program} {w : World} {K : Fg} {mg : Str → Option Value} {base : Heap} {x : Str} {st : Stmt} {N : List Str} {k n : Nat} {s : MS} {d : Dt} (hall : (s (List.replicate n .no)).all (fun out => ∃ ρ, out = .rt (.val d) ρ) (fun _ _ => False)) (Z : Df K mg x st) (S : FnScope N [] (defScope st))
    (hbi : ∀ (kV doc pm : Value) (an : Option Addr) (cdv ct : Value) (us : List Value), us.length = ([] : List Str).length → bindArgs (PySem.W.fnOf x x (defArgs st) (defBody st) (defScope st) .none kV doc pm an cdv ct) ⟨us, []⟩ = pure (([] : List Str).zip us)) (hn : N.length = n)
    (hbody : ∀ (f : Addr) (cdv : Value) (A : Around) (outer : List PySem.Env) (s0 : Shared) (H : Hp) (E : XK), Room k (A.deeper (envOfC x (defScope st) s0.heap.objs.size f cdv)) →
      ∃ t, PSs (cxOf (L2.CX P w) P w K mg base N x (defScope st) f cdv A outer s0 H E) (defBody st) t ∧ YS K (fun _ => E) t s) : Cal P w K mg base x [] (k + 1) (spF K (FM fun ds => if ds.length = 0 then .ok (.val d) else .no)) :=
  Z.calF S hbi (fun ds r h => by
    unfold FM at h
    by_cases q : ds.length = 0
    · exact q
    · dsimp only at h
      rw [if_neg q] at h
      exact h.elim) fun f cdv A outer s0 H vs Q E ds r hr hd hf hk => by
    subst hn
    obtain ⟨t, h1, h2⟩ := hbody f cdv A outer s0 H E hr
    refine ⟨t, h1, ?_⟩
    have l0 : ds = [] := by
      cases ds with
      | nil => rfl
      | cons a b => exact (show False from hf).elim
    subst l0
    have hf : r = .val d := hf
    subst hf
    obtain rfl := dps_nil hd
    have R := start_rl (N := N) (K := K) (H := H) (vs := []) (ds := []) .nil
    refine h2 H H _ _ _ H _ R (T.all_mono (fun out z => ?_) (fun _ _ z => z.elim) hall)
    obtain ⟨ρ, rfl⟩ := z
    intro o σ H' v R' hv
    exact hk v H' (R'.keep.trans hid_le) hv
end Wc

/-! WmV: texts: s + t, str(n), int(s). -/
namespace Wc
open PySem PySem.Spec PyProof.Rows L2
variable {K : Fg}
theorem ho_catS : Hr K (fun x y H Q => ∃ i j, x = .str i ∧ y = .str j ∧ i.length + j.length ≤ sizeLine ∧ Q (.str (i ++ j)) H) hCatS := fun d e => by
  constructor
  · intro x
    unfold hCatS
    split
    · split <;> nofun
    · nofun
  · intro z h v u H Q p q k
    unfold hCatS at h
    split at h
    · split at h
      · rename_i a b hl
        cases h
        exact ⟨a, b, dp_str p, dp_str q, by rw [sizeLine_eq]; omega, k _ H ex_rfl (.str _)⟩
      · cases h
    · cases h
theorem hc_str : Hc K (fun xs H Q => ∃ i, xs = [.int i] ∧ i.natAbs.log2 < 1920 ∧ Q (.str (toString i)) H) hStr := fun ds => by
  constructor
  · intro x
    unfold hStr
    split
    · split <;> nofun
    · nofun
  · intro z h vs H Q p k
    unfold hStr at h
    split at h
    · split at h
      · rename_i i hl
        cases h
        obtain rfl := of_dps_ints (ns := [i]) p
        exact ⟨i, rfl, hl, k _ H ex_rfl (.str _)⟩
      · cases h
    · cases h
theorem hc_int : Hc K (fun xs H Q => ∃ a n, xs = [.str a] ∧ PySem.intText? a = some n ∧ a.length ≤ 640 ∧ Q (.int n) H) hInt := fun ds => by
  constructor
  · intro x
    unfold hInt
    split
    · split
      · split <;> nofun
      · nofun
    · nofun
  · intro z h vs H Q p k
    unfold hInt at h
    split at h
    · split at h
      · rename_i a hl
        split at h
        · rename_i n hn
          cases h
          obtain ⟨v, r, rfl, h1, h2⟩ := dps_cons p
          obtain rfl := dps_nil h2
          obtain rfl := dp_str h1
          exact ⟨a, n, rfl, hn, hl, k _ H ex_rfl (.int _)⟩
        · cases h
      · cases h
    · cases h
end Wc

/-! WmW: sorted(list of tuples), any tuples that are alike. -/
namespace Wc
open PySem PySem.Spec PyProof.Rows L2
def tupN : Dt → Bool
  | .tuple (_ :: _) => true
  | _ => false
def sortOk (ds : List Dt) : Bool := ds.all tupN && (ds.all (fun d => ds.all fun d' => PySem.W.alike d d')) && ds.all (fun d => decide (d.depth ≤ 60)) && decide (ds.length ≤ 100000)
def sortD (ds : List Dt) : List Dt := ds.mergeSort (PySem.W.dataLe false id)
def hSortD : List Dt → O Dt
  | [.list ds] => if sortOk ds = true then .ok (.list (sortD ds)) else .no
  | _ => .no
def rSortedD (K : Fg) : List V → Hp → VK → Prop := fun vs H Q => ∃ (a : Addr) (xs : List V) (ds : List Dt), vs = [V.ref a] ∧ SqL K H a xs ∧ DpAll K H xs ds ∧ sortOk ds = true ∧
  ∀ (ys : List V) (p : Addr), DpAll K H ys (sortD ds) → H p = none → Q (.ref p) (upd H p (.lst ys))
def tupN_of {d : Dt} (h : tupN d = true) : ∃ x r, d = .tuple (x :: r) := by
  match d, h with
  | .tuple (x :: r), _ => exact ⟨x, r, rfl⟩
theorem each_of {K : Fg} {H : Hp} : ∀ {xs : List V} {us : List Value} {ds : List Dt}, Vals xs us → DpAll K H xs ds → PySem.W.EachIs (fun u d => ∃ x, RelV x u ∧ Dp K H x d) us ds
  | [], _, _, r, h => by
    cases r
    cases h
    exact .nil
  | x :: xs, _, _, r, h => by
    cases r with
    | cons r1 r2 =>
      cases h with
      | cons h1 h2 => exact .cons ⟨x, r1, h1⟩ (each_of r2 h2)
theorem of_each {K : Fg} {H : Hp} : ∀ {us : List Value} {ds : List Dt}, PySem.W.EachIs (fun u d => ∃ x, RelV x u ∧ Dp K H x d) us ds → ∃ xs, Vals xs us ∧ DpAll K H xs ds
  | [], _, h => by
    cases h
    exact ⟨[], .nil, .nil⟩
  | u :: us, _, h => by
    cases h with
    | cons h1 h2 =>
      obtain ⟨x, r1, p1⟩ := h1
      obtain ⟨xs, r2, p2⟩ := of_each h2
      exact ⟨x :: xs, .cons r1 r2, .cons p1 p2⟩
theorem cr_sortedD {X : Cx} {K : Fg} (hK : X.K = K) (hu : X.A.units + 65 < cLine) : CallR X (.builtin "sorted") (rSortedD K) := by
  subst hK
  intro pins s σ H vs us Q I r h
  obtain ⟨a, xs, ds, rfl, hs, hd, ok, q⟩ := h
  obtain ⟨its, rv, hl, hz⟩ := I.list hs
  rw [Vals.ref1 r]
  unfold sortOk at ok
  simp only [Bool.and_eq_true, List.all_eq_true, decide_eq_true_eq] at ok
  obtain ⟨⟨⟨o1, o2⟩, o3⟩, o4⟩ := ok
  have e := each_of rv hd
  have er : PySem.W.EachIs (fun v b => ∃ as, Reads s.heap v (id b) as) its ds := e.mono fun u d ⟨x, h1, h2⟩ => Dp.reads I d x u h2 h1
  have en : ds.map id = ds := List.map_id ds
  refine PySem.W.sorted_data (enc := id) hl.isList e er (by rw [en]; exact fun d hd d' hd' => o2 d hd d' hd') (by rw [en]; exact .inl fun d hd => tupN_of (o1 d hd)) (by rw [sizeLine_eq]; omega) (fun b hb => by
    have := o3 b hb
    show X.A.units + 2 + b.depth < cLine
    omega) fun out ho ho2 => ?_
  obtain ⟨ys, k1, k2⟩ := of_each ho2
  obtain ⟨ep, he'⟩ := PyProof.Rows.sortedAll_at s.heap its out.toArray
  have hlen : ys.length ≤ sizeLine := by
    rw [dps_len k2, List.length_mergeSort, sizeLine_eq]
    omega
  exact ⟨.ref _, upd H (s.heap.objs.size + 1) (.lst ys), I.laid (t' := s.toks) (fun _ _ => PyProof.Rows.sortedAll_old) (Nat.le_succ _) ⟨hlen, out, ep, k1, he'⟩, rfl, q _ _ k2 (I.hok.fresh (Nat.le_succ _))⟩
section
variable {K : Fg}
theorem hcn_sortD : Hcn K (rSortedD K) hSortD := fun ds => by
  unfold hSortD
  split
  · split
    · rename_i ds ok
      refine ⟨nofun, fun z q => ?_⟩
      cases q
      refine ⟨_, rfl, fun vs H Q p k => ?_⟩
      obtain ⟨v, r, rfl, q1, q2⟩ := dps_cons p
      obtain rfl := dps_nil q2
      obtain ⟨a, xs, rfl, hs, hd⟩ := dp_lst q1
      exact ⟨a, xs, ds, rfl, hs, hd, ok, fun ys b z1 hb => k b _ _ hb (Evl.Ex.new hb) upd_same (dps_ex (Evl.Ex.new hb) z1)⟩
    · exact ⟨nofun, nofun⟩
  · exact ⟨nofun, nofun⟩
end
/-! ### what the order says -/
theorem sortD_perm (ds : List Dt) : (sortD ds).Perm ds := List.mergeSort_perm _ _
end Wc

/-! WmX: x.meth(..).append(y) on the new list of a method. -/
namespace Wc
open PySem PySem.Spec PyProof.Rows L2
def newL : Rs → O (List Dt)
  | .new ds => .ok ds
  | _ => .no
def appK (i : Nat) (F : MO) (b : MP) (x : List Dt × MEnv) (a : Addr) (g : Dt) (st : Int) (sp ps : List Int) : T Out :=
  ofO (F g st sp ps x.1) x.2 fun r => ofO (newL r.1) x.2 fun ds => ofO (b (x.2.set i (.ob a g st r.2.1 r.2.2))) (x.2.set i (.ob a g st r.2.1 r.2.2)) fun _ => if ds.length < 100000 then .ret (.nx (x.2.set i (.ob a g st r.2.1 r.2.2))) else .no
def sAppM (i : Nat) (F : MO) (t : MX (List Dt)) (b : MP) : MS := fun ρ => obC (at_ ρ i) fun _ _ _ _ _ => (t ρ).bind fun x => obC (at_ x.2 i) (appK i F b x)
theorem sAppM_e {i : Nat} {F : MO} {t : MX (List Dt)} {b : MP} {ρ : MEnv} : sAppM i F t b ρ = obC (at_ ρ i) fun _ _ _ _ _ => (t ρ).bind fun x => obC (at_ x.2 i) (appK i F b x) := rfl
theorem appK_e {i : Nat} {F : MO} {b : MP} {x : List Dt × MEnv} {a : Addr} {g : Dt} {st : Int} {sp ps : List Int} : appK i F b x a g st sp ps = ofO (F g st sp ps x.1) x.2 fun r => ofO (newL r.1) x.2 fun ds => ofO (b (x.2.set i (.ob a g st r.2.1 r.2.2))) (x.2.set i (.ob a g st r.2.1 r.2.2)) fun _ => if ds.length < 100000 then .ret (.nx (x.2.set i (.ob a g st r.2.1 r.2.2))) else .no := rfl
theorem newL_new {ds : List Dt} : newL (.new ds) = .ok ds := rfl
theorem newL_ex (r : Rs) (x : Str) : newL r ≠ .ex x := by cases r <;> nofun
theorem ys_appM {K : Fg} {E0 : XK} {ta : TA} {te : TE} {i : Nat} {m : Str} {F : MO} {t : MX (List Dt)} {b : MP} (ha : YWA K (fun _ => E0) ta t) (hb : YT K (fun _ => E0) te b) (hm : ∀ gv st a1 a2, (obF gv st a1 a2).lookup m = none := by intros; rfl) :
    YS K (fun _ => E0) (tDrop (tBM K "list" rAppend (tMeth (dC K) m (spO K F) [] E0 (tVar i) ta) (tCons te tNil))) (sAppM i F t b) := fun B M o σ ρ H D R k => by
  obtain ⟨a, g, st, sp, ps, k, hc⟩ := obc_at R k
  obtain ⟨hs, dx, a1, a2, gv, ho, _⟩ := ob_at R hc
  refine ⟨.ref a, hs, a, dx, _, rfl, ho.ins, hm .., ha B M o σ ρ H R _ (T.all_mono (fun x kx o1 us H1 R1 p1 => ?_) (fun _ _ z => fun o' H' R' => z o' σ H' R') (w_all k))⟩
  obtain ⟨a', g', st', sp', ps', k1, hc1⟩ := obc_at R1 kx
  obtain ⟨hs1, dx', b1, b2, gv', ho1, hg1, hn1, o0, o1', o2, o3⟩ := ob_at R1 hc1
  rw [hs] at hs1
  cases hs1
  rw [List.append_nil]
  refine ⟨a, us, dx', b1, b2, gv', g', st', sp', ps', x.1, rfl, ho1, dps_ex hid_le p1, ?_⟩
  refine O.go_mono (ofO_all.mp k1) (fun r kr v H' e l1 l2 hr => ?_) (fun y z H' e => z o1 σ H' (R1.ex e))
  have kr' := ofO_all.mp kr
  obtain ⟨R2, eh⟩ := ob_step R1 hs ho1 hg1 hn1 o0 o1' o2 o3 e l1 l2
  cases q : newL r.1 with
  | no => rw [q] at kr'; exact kr'.elim
  | ex y => exact absurd q (newL_ex _ _)
  | ok ds =>
    rw [q] at kr'
    have hr' : r.1 = .new ds := by
      revert q
      cases r.1 with
      | new es => intro q; cases q; rfl
      | _ => nofun
    rw [hr'] at hr
    obtain ⟨p, xs, rfl, f0, f1, f2⟩ := hr
    refine ⟨tyv_l f1, hb B M o1 σ _ H' R2 H' ex_rfl _ (O.go_mono (ofO_all.mp kr') (fun d kd u H3 e3 p3 => ?_) fun y z H3 e3 => z o1 σ H3 (R2.ex e3))⟩
    split at kd
    · rename_i hl
      refine ⟨p, xs, u, rfl, rfl, e3 _ _ f1, Evl.sz_lt (by rw [dps_len f2]; exact hl), ?_⟩
      have n1 : b1 ≠ p := fun z => by
        have := ho1.l1
        rw [z, f0] at this
        cases this
      have n2 : b2 ≠ p := fun z => by
        have := ho1.l2
        rw [z, f0] at this
        cases this
      refine kd o1 σ _ (ob_step R1 hs ho1 hg1 hn1 o0 o1' o2 o3 (fun b w z1 z2 hb => ?_) ?_ ?_).1
      · rw [upd_ne (fun z => by rw [z, f0] at hb; cases hb)]
        exact e3 _ _ (e b w z1 z2 hb)
      · rw [upd_ne n1]
        exact e3 _ _ l1
      · rw [upd_ne n2]
        exact e3 _ _ l2
    · exact kd.elim
end Wc

/-! WmY: a list of lists of ours: [[] for ..], xss[i].append(y), xss[i]. -/
namespace Wc
open PySem PySem.Spec PyProof.Rows L2
def llC {β : Type} : Cell → (List (List Dt) → T β) → T β
  | .ll d, f => f d
  | _, _ => .no
def llO {β : Type} : Cell → (List (List Dt) → O β) → O β
  | .ll d, f => f d
  | _, _ => .no
@[simp] theorem llC_ll {β : Type} {d : List (List Dt)} {f : List (List Dt) → T β} : llC (.ll d) f = f d := rfl
@[simp] theorem llO_ll {β : Type} {d : List (List Dt)} {f : List (List Dt) → O β} : llO (.ll d) f = f d := rfl
def ixL (n : Nat) : Dt → O Nat
  | .int k => match L2.ixN n k with
    | some j => .ok j
    | none => .no
  | _ => .no
def pLLx (i : Nat) (e : MP) : MP := fun ρ => llO (at_ ρ i) fun dss => (e ρ).bind fun k => (ixL dss.length k).bind fun j => .ok (.list (dss.getD j []))
def llAdd (dss : List (List Dt)) (j : Nat) (d : Dt) : O (List (List Dt)) := if noLst d = true ∧ (dss.getD j []).length < 100000 then .ok (dss.set j (dss.getD j [] ++ [d])) else .no
def sLLApp (i : Nat) (e b : MP) : MS := fun ρ => llC (at_ ρ i) fun dss => ofO (e ρ) ρ fun k => ofO (ixL dss.length k) ρ fun j => ofO (b ρ) ρ fun d => ofO (llAdd dss j d) ρ fun es => .ret (.nx (ρ.set i (.ll es)))
def sLL (i : Nat) (src : MI) : MS := fun ρ => ofO (src ρ) ρ fun ds => if ds.length ≤ 100000 then .ret (.nx (ρ.set i (.ll (List.replicate ds.length [])))) else .no
theorem ll_at {K : Fg} {B M : Hp} {o : Addr → Option Nat} {σ : L2.St} {ρ : MEnv} {H : Hp} {β : Type} {i : Nat} {f : List (List Dt) → T β} {Q : β → Prop} {X : Str → MEnv → Prop} (R : Rl K B M o σ ρ H) (k : (llC (at_ ρ i) f).all Q X) :
    ∃ dss p rs, (f dss).all Q X ∧ at_ ρ i = .ll dss ∧ σ[i]? = some (some (.ref p)) ∧ o p = some i ∧ B p = none ∧ H p = some (.lst (rs.map V.ref)) ∧ LLs K B o H i p rs dss := by
  have h := R.cell i
  generalize at_ ρ i = c at h k
  cases c with
  | ll dss =>
    obtain ⟨p, rs, h1, h2, h3, h4, h5⟩ := h
    exact ⟨dss, p, rs, k, rfl, h1, h2, h3, h4, h5⟩
  | _ => exact k.elim
theorem ll_atO {K : Fg} {B M : Hp} {o : Addr → Option Nat} {σ : L2.St} {ρ : MEnv} {H : Hp} {β : Type} {i : Nat} {f : List (List Dt) → O β} {Q : β → Prop} {X : Str → Prop} (R : Rl K B M o σ ρ H) (k : (llO (at_ ρ i) f).go Q X) :
    ∃ dss p rs, (f dss).go Q X ∧ σ[i]? = some (some (.ref p)) ∧ H p = some (.lst (rs.map V.ref)) ∧ LLs K B o H i p rs dss := by
  have h := R.cell i
  generalize at_ ρ i = c at h k
  cases c with
  | ll dss =>
    obtain ⟨p, rs, h1, h2, h3, h4, h5⟩ := h
    exact ⟨dss, p, rs, k, h1, h4, h5⟩
  | _ => exact k.elim
theorem LLs.ex {K : Fg} {B : Hp} {o : Addr → Option Nat} {H H' : Hp} {i : Nat} {p : Addr} {rs : List Addr} {dss : List (List Dt)} (e : Ex H H') (h : LLs K B o H i p rs dss) : LLs K B o H' i p rs dss := by
  obtain ⟨h5, h6, h7, h8⟩ := h
  refine ⟨h5, h6, h7, fun k r ds hr hd => ?_⟩
  obtain ⟨z1, z2, xs, z3, z4, z5⟩ := h8 k r ds hr hd
  exact ⟨z1, z2, xs, e _ _ z3, z4, dps_ex (hid_ex e) z5⟩
theorem ixL_go {n : Nat} {d : Dt} {Q : Nat → Prop} {X : Str → Prop} (h : (ixL n d).go Q X) : ∃ k j, d = .int k ∧ L2.ixN n k = some j ∧ j < n ∧ Q j := by
  unfold ixL at h
  split at h
  · rename_i k
    split at h
    · rename_i _ j hj
      exact ⟨k, j, rfl, hj, (L2.ixN_seq hj).2.1, h⟩
    · exact h.elim
  · exact h.elim
theorem at_ixN {α : Type} {xs : List α} {n : Nat} {k : Int} {j : Nat} {v : α} (hn : xs.length = n) (h : L2.ixN n k = some j) (hv : xs[j]? = some v) : L2.atI xs k = some v := by
  unfold L2.atI
  rw [hn, h]
  exact hv
section
variable {K : Fg} {E : XS} {te tb : TE} {e b : MP} {i : Nat}
theorem yt_llx (he : YT K E te e) : YT K E (tOp (rIx K) (tVar i) te) (pLLx i e) := fun B M o σ ρ H R H1 e1 Q k => by
  obtain ⟨dss, p, rs, k, h1, h2, h3⟩ := ll_atO (R.ex e1) k
  refine ⟨_, h1, he B M o σ ρ H R H1 e1 _ (O.go_mono (O.go_bind.mp k) (fun d kd v H2 e2 p2 => ?_) fun _ z => z)⟩
  obtain ⟨n, j, rfl, q1, q2, q3⟩ := ixL_go (O.go_bind.mp kd)
  cases p2
  have h3' := h3.ex e2
  obtain ⟨r, hr⟩ : ∃ r, rs[j]? = some r := ⟨_, List.getElem?_eq_getElem (by rw [h3.2.2.1]; exact q2)⟩
  have hd : dss[j]? = some (dss.getD j []) := by
    rw [List.getD_eq_getElem?_getD, List.getElem?_eq_getElem q2] <;> rfl
  obtain ⟨z1, z2, xs, z3, z4, z5⟩ := h3'.2.2.2 j r _ hr hd
  have hv : L2.atI (rs.map V.ref) n = some (.ref r) := at_ixN (by rw [List.length_map, h3.2.2.1]) q1 (by rw [List.getElem?_map, hr] <;> rfl)
  exact .inl ⟨p, _, n, _, rfl, rfl, SqL.of (e2 _ _ h2), hv, q3 _ H2 e2 (Dp.lst (SqL.of z3) (dps_ex hid_le z5))⟩
theorem ys_llapp (he : YT K E te e) (hb : YT K E tb b) : YS K E (tDrop (tBM K "list" rAppend (tOp (rIx K) (tVar i) te) (tCons tb tNil))) (sLLApp i e b) := fun B M o σ ρ H D R k => by
  obtain ⟨dss, p, rs, k, q0, h1, h2, h3, h4, h5⟩ := ll_at R k
  refine ⟨_, h1, he B M o σ ρ H R H ex_rfl _ (O.go_mono (ofO_all.mp k) (fun d kd v H2 e2 p2 => ?_) fun x z H2 e2 => z o σ H2 (R.ex e2))⟩
  obtain ⟨n, j, rfl, q1, q2, q3⟩ := ixL_go (ofO_all.mp kd)
  cases p2
  have h5' := h5.ex e2
  obtain ⟨r, hr⟩ : ∃ r, rs[j]? = some r := ⟨_, List.getElem?_eq_getElem (by rw [h5.2.2.1]; exact q2)⟩
  have hd : dss[j]? = some (dss.getD j []) := by
    rw [List.getD_eq_getElem?_getD, List.getElem?_eq_getElem q2] <;> rfl
  obtain ⟨z1, z2, xs, z3, z4, z5⟩ := h5'.2.2.2 j r _ hr hd
  have hv : L2.atI (rs.map V.ref) n = some (.ref r) := at_ixN (by rw [List.length_map, h5.2.2.1]) q1 (by rw [List.getElem?_map, hr] <;> rfl)
  refine .inl ⟨p, _, n, _, rfl, rfl, SqL.of (e2 _ _ h4), hv, tyv_l z3, hb B M o σ ρ H R H2 e2 _ (O.go_mono (ofO_all.mp q3) (fun d kd v H3 e3 p3 => ?_) fun x z H3 e3 => z o σ H3 (R.ex (e2.trans e3)))⟩
  have kd' := ofO_all.mp kd
  unfold llAdd at kd'
  split at kd'
  · rename_i hl
    have R3 := R.ex (e2.trans e3)
    have h53 := h5'.ex e3
    obtain ⟨_, _, xs', y3, _, y5⟩ := h53.2.2.2 j r _ hr hd
    have exs : xs' = xs := by
      have := e3 _ _ z3
      rw [y3] at this
      cases this
      rfl
    subst exs
    have pr : p ≠ r := fun z => h5.2.1 (by rw [z]; exact List.mem_of_getElem? hr)
    have nn : noLsts (dss.getD j [] ++ [d]) = true := noLsts_app z4 (by rw [noLsts, hl.1, noLsts] <;> rfl)
    refine ⟨r, xs', v, rfl, rfl, y3, Evl.sz_lt (by rw [dps_len z5]; exact hl.2), kd' o σ _ (R3.mut (a := r) z1 (by simp) (by simp) ⟨p, rs, h1, h2, h3, by rw [upd_ne pr]; exact e3 _ _ (e2 _ _ h4), h5.1, h5.2.1, by rw [List.length_set]; exact h5.2.2.1, fun k r' ds hr' hd' => ?_⟩)⟩
    rw [hid_upd (by rw [z1]; nofun)]
    by_cases ek : k = j
    · subst ek
      rw [hr] at hr'
      cases hr'
      rw [List.getElem?_set_self q2] at hd'
      cases hd'
      exact ⟨z1, z2, _, upd_same, nn, dps_hid R3 nn (dps_app (dps_ex hid_le y5) (.cons p3 .nil))⟩
    · rw [List.getElem?_set_ne (Ne.symm ek)] at hd'
      obtain ⟨w1, w2, ws, w3, w4, w5⟩ := h53.2.2.2 k r' ds hr' hd'
      have rr : r' ≠ r := fun z => by
        subst z
        obtain ⟨a1, a2⟩ := List.getElem?_eq_some_iff.mp hr
        obtain ⟨b1, b2⟩ := List.getElem?_eq_some_iff.mp hr'
        exact ek ((List.getElem_inj h5.1).mp (b2.trans a2.symm))
      exact ⟨w1, w2, ws, by rw [upd_ne rr]; exact w3, w4, w5⟩
  · exact kd'.elim
end
/-! ### many lists become ours -/
def ownL (o : Addr → Option Nat) (i : Nat) : List Addr → Addr → Option Nat
  | [] => o
  | p :: ps => own1 (ownL o i ps) p i
section
variable {K : Fg} {B M : Hp} {o : Addr → Option Nat} {σ : L2.St} {ρ : MEnv} {H H' : Hp} {i j : Nat}
theorem hid_ownL : ∀ {ps : List Addr}, (∀ p ∈ ps, H p = none) → hid (ownL o i ps) H = hid o H
  | [], _ => rfl
  | p :: ps, h => by
    show hid (own1 (ownL o i ps) p i) H = _
    rw [hid_own1 (h p List.mem_cons_self), hid_ownL fun q hq => h q (List.mem_cons_of_mem _ hq)]
theorem CellOk.ownL {s : Option (Option V)} {c : Cell} : ∀ {ps : List Addr}, (∀ p ∈ ps, H p = none) → CellOk K B o H j s c → CellOk K B (ownL o i ps) H j s c
  | [], _, hc => hc
  | p :: ps, h, hc => CellOk.own1 (h p List.mem_cons_self) (CellOk.ownL (fun q hq => h q (List.mem_cons_of_mem _ hq)) hc)
theorem ownL_mem : ∀ {ps : List Addr} {p : Addr}, p ∈ ps → ownL o i ps p = some i
  | q :: ps, p, h => by
    show own1 (ownL o i ps) q i p = _
    by_cases e : p = q
    · subst e
      exact own1_at
    · rw [own1_ne e]
      exact ownL_mem ((List.mem_cons.mp h).resolve_left e)
theorem ownL_of : ∀ {ps : List Addr} {p : Addr}, p ∉ ps → ownL o i ps p = o p
  | [], _, _ => rfl
  | q :: ps, p, h => by
    show own1 (ownL o i ps) q i p = _
    rw [own1_ne fun z => h (by rw [z]; exact List.mem_cons_self), ownL_of fun z => h (List.mem_cons_of_mem _ z)]
theorem Rl.ownL {ps : List Addr} (R : Rl K B M o σ ρ H) (hp : ∀ p ∈ ps, H p = none) (e : Ex H H') (hu : ∀ p ∈ ps, ∃ xs, H' p = some (.lst xs)) : Rl K B M (ownL o i ps) σ ρ H' :=
  ⟨R.len, fun j => ((R.cell j).ownL hp).ex e, fun a w h => hid_ex e _ _ (by rw [hid_ownL hp]; exact R.keep a w h), fun a h => R.base a (Evl.fresh_back e h), fun a j h => by
    by_cases ea : a ∈ ps
    · obtain ⟨xs, hx⟩ := hu a ea
      exact ⟨_, hx, by simp, by simp⟩
    · rw [ownL_of ea] at h
      obtain ⟨w, h1, h2⟩ := R.live a j h
      exact ⟨w, e _ _ h1, h2⟩⟩
end
theorem ys_ll {K : Fg} {E : XS} {wi : TI} {tt : TT} {te : TE} {vs : List Nat} {src : MI} {i l : Nat} {g : TG} (hs : YI K E wi src) (hg : YTg K g (.one l)) (ht : YB K E tt bYes) (he : YN K E te (pLst aNil)) (hv : l ∈ vs := by decide) :
    YS K E (tAsg (tLc wi g tt te vs) (gName i)) (sLL i src) := fun B M o σ ρ H D R k => hs B M o σ ρ H R H ex_rfl _ (O.go_mono (ofO_all.mp k) (fun ds kd J H2 e2 S => by
  split at kd
  · rename_i hl
    intro Dl hD
    refine ⟨fun n m H' => m = ds.length - n ∧ n ≤ ds.length ∧ Ex H2 H' ∧ ∃ rs : List Addr, H' Dl = some (.lst (rs.map V.ref)) ∧ rs.length = n ∧ rs.Nodup ∧ Dl ∉ rs ∧ ∀ r ∈ rs, H2 r = none ∧ H' r = some (.lst []),
      ⟨ds.length, by simp, Nat.zero_le _, Evl.Ex.new hD, [], upd_same, rfl, .nil, by simp, by simp⟩, ?_⟩
    rintro n m H' ⟨rfl, hin, eH, rs, hacc, hln, hnd, hDr, hrs⟩
    by_cases hlt : n < ds.length
    · have hM : Ex (hid o H2) H' := hid_le.trans eH
      refine .inr ⟨S.go n H' hlt hM, fun H5 => Ex H2 H5 ∧ ∃ rs : List Addr, H5 Dl = some (.lst (rs.map V.ref)) ∧ rs.length = n + 1 ∧ rs.Nodup ∧ Dl ∉ rs ∧ ∀ r ∈ rs, H2 r = none ∧ H5 r = some (.lst []),
        fun H5 ⟨z1, z2⟩ => ⟨ds.length - (n + 1), by omega, rfl, hlt, z1, z2⟩, fun y H5 hy => ?_⟩
      obtain ⟨e5, dy⟩ := S.yld n H' y H5 hlt hM hy
      have R' := R.ex (e2.trans eH)
      obtain ⟨d, hd1, hd2⟩ := dy o (fun a ha => R'.fresh ha) (hid_ex eH)
      have R5 := ((R'.ex e5).wipe vs)
      refine hg B M o _ _ H5 y d R5 hd2 _ (show (O.ok ((wipeE ρ vs).set l (.val d))).go _ _ from fun σ' R6 hw => ⟨?_, ?_⟩)
      · have := hw vs (by
          intro j hj
          have : j = l := by simpa [Tg.ix] using hj
          rw [this]
          exact hv)
        rw [this]
        exact (wipe_wipe σ vs)
      · refine ht B M o σ' _ H5 R6 H5 ex_rfl _ (show (O.ok true).go _ _ from fun H6 e6 => ?_)
        show te σ' H6 _
        refine he B M o σ' _ H5 R6 H6 e6 _ ?_
        rw [show ∀ ρ', pLst aNil ρ' = .ok (.list []) from fun _ => lstK0]
        intro v H7 e7 p7
        obtain ⟨p, xs, es, rfl, q1, q2, q3, q4⟩ := p7
        cases q1
        obtain rfl := dps_nil q4
        have h7 : H7 Dl = some (.lst (rs.map V.ref)) := e7 _ _ (e6 _ _ (e5 _ _ hacc))
        have nD : p ≠ Dl := fun z => by
          have := e6 _ _ (e5 _ _ hacc)
          rw [← z, q2] at this
          cases this
        have nr : p ∉ rs := fun z => by
          have := e6 _ _ (e5 _ _ (hrs p z).2)
          rw [q2] at this
          cases this
        refine ⟨rs.map V.ref, h7, Evl.sz_lt (by rw [List.length_map]; omega), Evl.Ex.mut (((eH.trans e5).trans e6).trans e7) hD, rs ++ [p], ?_, by rw [List.length_append, hln] <;> rfl, ?_, ?_, fun r hr => ?_⟩
        · rw [upd_same, List.map_append] <;> rfl
        · rw [List.nodup_append]
          refine ⟨hnd, by simp, fun a ha b hb => ?_⟩
          have : b = p := by simpa using hb
          rw [this]
          exact fun z => nr (by rw [← z]; exact ha)
        · intro z
          rcases List.mem_append.mp z with z | z
          · exact hDr z
          · have : Dl = p := by simpa using z
            exact nD this.symm
        · rcases List.mem_append.mp hr with z | z
          · exact ⟨(hrs r z).1, by rw [upd_ne (fun q => hDr (by rw [← q]; exact z))]; exact e7 _ _ (e6 _ _ (e5 _ _ (hrs r z).2))⟩
          · have : r = p := by simpa using z
            subst this
            exact ⟨Evl.fresh_back ((eH.trans e5).trans e6) q2, by rw [upd_ne nD]; exact q3⟩
    · have en : n = ds.length := by omega
      refine .inl ⟨by rw [en]; exact S.stop H' (hid_le.trans eH), ?_⟩
      have fr : ∀ p ∈ Dl :: rs, H p = none := fun p hp => by
        rcases List.mem_cons.mp hp with rfl | hp
        · exact Evl.fresh_back e2 hD
        · exact Evl.fresh_back e2 (hrs p hp).1
      have R2 : Rl K B M (ownL o i (Dl :: rs)) σ ρ H' := R.ownL fr (e2.trans eH) fun p hp => by
        rcases List.mem_cons.mp hp with rfl | hp
        · exact ⟨_, hacc⟩
        · exact ⟨_, (hrs p hp).2⟩
      refine kd (ownL o i (Dl :: rs)) _ H' (R2.set (s := some (.ref Dl)) (c := .ll (List.replicate ds.length [])) ⟨Dl, rs, rfl, ownL_mem List.mem_cons_self, R.base _ (fr _ List.mem_cons_self), hacc, hnd, hDr, by rw [List.length_replicate]; omega, fun k r es hr he => ?_⟩)
      have hm := List.mem_of_getElem? hr
      have ee : es = [] := (List.mem_replicate.mp (List.mem_of_getElem? he)).2
      subst ee
      exact ⟨ownL_mem (List.mem_cons_of_mem _ hm), R.base _ (fr _ (List.mem_cons_of_mem _ hm)), [], (hrs r hm).2, by rw [noLsts], .nil⟩
  · exact kd.elim) fun x z H2 e2 => z o σ H2 (R.ex e2))
end Wc

namespace Wc
open PySem PySem.Spec PyProof.Rows L2
def topS (i : Nat) : Stmt := PySem.Challenge.pw_wheelcurves_k05_whole_cover.main.body.getD i (.Pass ⟨0, 0, 0, 0⟩)

/-! ### gears, plainly -/
def isIntD (d : Dt) (lo hi : Int) : Bool := match d with
  | .int i => decide (lo ≤ i) && decide (i ≤ hi)
  | _ => false
theorem isIntD_iff {d : Dt} {lo hi : Int} : isIntD d lo hi = true ↔ ∃ i, d = .int i ∧ lo ≤ i ∧ i ≤ hi := by
  constructor
  · intro h
    cases d with
    | int i =>
      have h' : (decide (lo ≤ i) && decide (i ≤ hi)) = true := h
      rw [Bool.and_eq_true, decide_eq_true_eq, decide_eq_true_eq] at h'
      exact ⟨i, rfl, h'.1, h'.2⟩
    | _ => cases h
  · rintro ⟨i, rfl, h1, h2⟩
    show (decide (lo ≤ i) && decide (i ≤ hi)) = true
    rw [decide_eq_true h1, decide_eq_true h2] <;> rfl
def isGearD (d : Dt) : Bool := match d with
  | .tuple [a, b, .str s] => isIntD a 3 150 && (isIntD b 2 150 && (decide (s ∈ [sIn, sOut]) && (decide (s = sOut) || (match a, b with
    | .int N, .int w => decide (w < N)
    | _, _ => false))))
  | _ => false
theorem isGearD_iff {d : Dt} : isGearD d = true ↔ ∃ N w s, d = gear N w s ∧ Gok N w s := by
  constructor
  · intro h
    unfold isGearD at h
    split at h
    · rename_i a b s
      simp only [Bool.and_eq_true, Bool.or_eq_true, decide_eq_true_eq, isIntD_iff] at h
      obtain ⟨⟨N, rfl, h1, h2⟩, ⟨w, rfl, h3, h4⟩, h5, h6⟩ := h
      refine ⟨N, w, s, rfl, h1, h2, h3, h4, ?_⟩
      rcases h6 with h6 | h6
      · exact .inr h6
      · have h6' : w < N := of_decide_eq_true h6
        rcases List.mem_cons.mp h5 with e | e
        · exact .inl ⟨e, h6'⟩
        · exact .inr (List.mem_singleton.mp e)
    · cases h
  · rintro ⟨N, w, s, rfl, h⟩
    have h1 : isIntD (.int N) 3 150 = true := isIntD_iff.mpr ⟨N, rfl, h.n3, h.n150⟩
    have h2 : isIntD (.int w) 2 150 = true := isIntD_iff.mpr ⟨w, rfl, h.w2, h.w150⟩
    show (isIntD (.int N) 3 150 && (isIntD (.int w) 2 150 && (decide (s ∈ [sIn, sOut]) && (decide (s = sOut) || decide (w < N))))) = true
    rw [h1, h2]
    rcases h.side with ⟨rfl, h3⟩ | rfl
    · rw [decide_eq_true h3] <;> simp
    · simp
theorem side2 {N w : Int} {s : Str} (g : Gok N w s) : s = sIn ∨ s = sOut := g.side.imp And.left id
theorem gcD {N w : Int} : True := trivial

/-! ### wheelcurves/gears.py -/
def gcI (a b : Int) : Int := (Int.gcd a b : Int)
def petI (N w : Int) : Int := N / gcI N w
def rndI (N w : Int) : Int := w / gcI N w
def lenI (N w : Int) : Int := N * w / gcI N w
theorem gcd_step {a b : Int} (ha : 0 ≤ a) (hb : 0 < b) : Int.gcd b (a % b) = Int.gcd a b := by
  obtain ⟨m, rfl⟩ := Int.eq_ofNat_of_zero_le ha
  obtain ⟨n, rfl⟩ := Int.eq_ofNat_of_zero_le (Int.le_of_lt hb)
  rw [← Int.natCast_emod]
  show Nat.gcd n (m % n) = Nat.gcd m n
  rw [Nat.gcd_comm n (m % n), ← Nat.gcd_rec, Nat.gcd_comm]
theorem gcI_pos {a b : Int} (h : 0 < a) : 0 < gcI a b := by
  have : Int.gcd a b ≠ 0 := fun z => by
    have := (Int.gcd_eq_zero_iff.mp z).1
    omega
  unfold gcI
  omega
theorem gcI_le {a b : Int} (h : 0 < a) : gcI a b ≤ a := Int.le_of_dvd h (Int.gcd_dvd_left ..)
theorem gcI_leR {a b : Int} (h : 0 < b) : gcI a b ≤ b := Int.le_of_dvd h (Int.gcd_dvd_right ..)
theorem gcI_small {N w : Int} {s : Str} (g : Gok N w s) : 0 < gcI N w ∧ gcI N w < 1073741824 := by
  have h1 := gcI_pos (a := N) (b := w) (by have := g.n3; omega)
  have h2 := gcI_le (a := N) (b := w) (by have := g.n3; omega)
  have := g.n150
  omega
def turnI (N w : Int) (s : Str) : Int := if s = sIn then petI N w - rndI N w else petI N w + rndI N w
theorem side_ok {N w : Int} {s : Str} (g : Gok N w s) : PyData.strOk s = true := by
  rcases g.side with ⟨rfl, _⟩ | rfl <;> decide +kernel
/-- the pairs of teeth, until the curve closes -/
def rollL (N w : Int) : Nat := Nat.lcm N.toNat w.toNat
def roll (N w st : Int) (n : Nat) : List Dt := (List.range n).map fun (i : Nat) => .tuple [.int ((st + i) % N), .int ((i : Int) % w)]
theorem roll_succ (N w st : Int) (n : Nat) : roll N w st (n + 1) = roll N w st n ++ [.tuple [.int ((st + n) % N), .int ((n : Int) % w)]] := by
  unfold roll
  rw [List.range_succ, List.map_append] <;> rfl
theorem roll_len (N w st : Int) (n : Nat) : (roll N w st n).length = n := by
  unfold roll
  rw [List.length_map, List.length_range]
theorem roll_pl (N w st : Int) (n : Nat) : pls (roll N w st n) = true := pls_map fun i => by simp [pl, pls]
theorem roll_no (N w st : Int) (n : Nat) : noLsts (roll N w st n) = true := by
  induction n with
  | zero => show noLsts [] = true; rw [noLsts]
  | succ n ih =>
    rw [roll_succ]
    exact noLsts_app ih (by simp [noLst, noLsts])
theorem roll_depth (N w st : Int) (n : Nat) : PyData.depth (.list (roll N w st n)) ≤ 64 := by
  rw [PyData.depth]
  have : PyData.depthAll (roll N w st n) ≤ 1 := depth_map fun i => by simp [PyData.depth, PyData.depthAll]
  omega
theorem rollL_pos {N w : Int} (h1 : 0 < N) (h2 : 0 < w) : 0 < rollL N w := Nat.lcm_pos (by omega) (by omega)
theorem rollL_le {N w : Int} {s : Str} (g : Gok N w s) : rollL N w ≤ 22500 := by
  have h1 := g.n3
  have h2 := g.n150
  have h3 := g.w2
  have h4 := g.w150
  have h5 : rollL N w ≤ N.toNat * w.toNat := Nat.le_of_dvd (Nat.mul_pos (by omega) (by omega)) (Nat.lcm_dvd_mul _ _)
  exact Nat.le_trans h5 (Nat.mul_le_mul (show N.toNat ≤ 150 by omega) (show w.toNat ≤ 150 by omega))
theorem back_iff {N st : Int} {t : Nat} (h0 : 0 ≤ st) (h1 : st < N) : (st + t) % N = st ↔ N.toNat ∣ t := by
  have e : st % N = st := Int.emod_eq_of_lt h0 h1
  have hN : ((N.toNat : Nat) : Int) = N := by omega
  rw [← Int.natCast_dvd_natCast, hN]
  constructor
  · intro h
    have : (st + t) % N = st % N := h.trans e.symm
    have h2 := (Int.emod_emod_of_dvd (st + t) (Int.dvd_refl N))
    have h3 := Int.emod_eq_emod_iff_emod_sub_eq_zero.mp this
    have h4 : st + t - st = (t : Int) := by omega
    rw [h4] at h3
    exact Int.dvd_of_emod_eq_zero h3
  · intro h
    have : (st + t) % N = st % N := Int.emod_eq_emod_iff_emod_sub_eq_zero.mpr (by
      have h4 : st + t - st = (t : Int) := by omega
      rw [h4]
      exact Int.emod_eq_zero_of_dvd h)
    rw [this, e]
theorem zero_iff {w : Int} {t : Nat} (h1 : 0 < w) : (t : Int) % w = 0 ↔ w.toNat ∣ t := by
  have := back_iff (N := w) (st := 0) (t := t) (by omega) h1
  rwa [Int.zero_add] at this
theorem rollL_iff {N w st : Int} {t : Nat} (h0 : 0 ≤ st) (h1 : st < N) (hw : 0 < w) : ((st + t) % N = st ∧ (t : Int) % w = 0) ↔ rollL N w ∣ t := by
  rw [back_iff h0 h1, zero_iff hw]
  exact Nat.lcm_dvd_iff.symm
theorem mod_next {x N : Int} : (x % N + 1) % N = (x + 1) % N := Int.emod_add_emod x N 1
/-! ### the numbers of a gear -/
structure Gnum (N w a b g L : Int) : Prop where
  en : N = g * a
  ew : w = g * b
  l : L = a * w
  l2 : L = b * N
  a0 : 0 < a
  b0 : 0 < b
  g0 : 0 < g
theorem gnum {N w : Int} (h1 : 0 < N) (h2 : 0 < w) : Gnum N w (petI N w) (rndI N w) (gcI N w) (lenI N w) := by
  have g0 := gcI_pos (a := N) (b := w) h1
  have en : gcI N w * petI N w = N := Int.mul_ediv_cancel' (Int.gcd_dvd_left ..)
  have ew : gcI N w * rndI N w = w := Int.mul_ediv_cancel' (Int.gcd_dvd_right ..)
  have a0 : 0 < petI N w := Int.pos_of_mul_pos_right (by rw [en]; exact h1) g0
  have b0 : 0 < rndI N w := Int.pos_of_mul_pos_right (by rw [ew]; exact h2) g0
  have l : lenI N w = petI N w * w := by
    have e : N * w = gcI N w * (petI N w * w) := by rw [← Int.mul_assoc, en]
    unfold lenI
    rw [e]
    exact Int.mul_ediv_cancel_left _ (by omega)
  refine ⟨en.symm, ew.symm, l, ?_, a0, b0, g0⟩
  rw [l]
  calc petI N w * w = petI N w * (gcI N w * rndI N w) := by rw [ew]
    _ = rndI N w * (gcI N w * petI N w) := by rw [Int.mul_left_comm, Int.mul_comm (petI N w), Int.mul_left_comm]
    _ = rndI N w * N := by rw [en]
theorem rollL_len {N w : Int} (h1 : 0 < N) (h2 : 0 < w) : (rollL N w : Int) = lenI N w := by
  obtain ⟨n, rfl⟩ := Int.eq_ofNat_of_zero_le (Int.le_of_lt h1)
  obtain ⟨m, rfl⟩ := Int.eq_ofNat_of_zero_le (Int.le_of_lt h2)
  show ((Nat.lcm n m : Nat) : Int) = ((n : Int) * m) / ((Nat.gcd n m : Nat) : Int)
  unfold Nat.lcm
  rw [Int.natCast_ediv, Int.natCast_mul]
theorem count_z {w : Int} {L : Nat} {k : Nat} (hw : 0 < w) (e : L = k * w.toNat) {g : Nat → Dt} {f : Nat → Bool} (hf : ∀ i, f i = decide (((i : Nat) : Int) % w = 0)) : (kept L f g).length = k := by
  rw [kept_count, e]
  have : (List.range (k * w.toNat)).countP f = (List.range (k * w.toNat)).countP fun i => decide (i % w.toNat = 0) := by
    congr 1
    funext i
    rw [hf]
    refine decide_eq_decide.mpr ?_
    rw [zero_iff hw]
    exact Nat.dvd_iff_mod_eq_zero
  rw [this]
  exact count_mod _ (by omega) k
theorem gcI_comm {a b : Int} : gcI a b = gcI b a := by
  unfold gcI
  rw [Int.gcd_comm]
theorem gcI_mul {a b c : Int} (h : 0 < c) : gcI (a * c) (b * c) = gcI a b * c := by
  unfold gcI
  rw [Int.gcd_mul_right, Int.natCast_mul]
  have : ((c.natAbs : Nat) : Int) = c := by omega
  rw [this]
theorem pet_mul {N w c : Int} (h : 0 < c) : petI (N * c) (w * c) = petI N w := by
  unfold petI
  rw [gcI_mul h]
  exact Int.mul_ediv_mul_of_pos_left _ _ h
theorem rnd_mul {N w c : Int} (h : 0 < c) : rndI (N * c) (w * c) = rndI N w := by
  unfold rndI
  rw [gcI_mul h]
  exact Int.mul_ediv_mul_of_pos_left _ _ h
theorem len_mul {N w c : Int} (h1 : 0 < N) (h2 : 0 < w) (h : 0 < c) : lenI (N * c) (w * c) = lenI N w * c := by
  rw [(gnum (N := N * c) (w := w * c) (Int.mul_pos h1 h) (Int.mul_pos h2 h)).l, pet_mul h, (gnum h1 h2).l, Int.mul_assoc]
theorem pet_sw {N w : Int} : petI w N = rndI N w := by
  unfold petI rndI
  rw [gcI_comm]
theorem rnd_sw {N w : Int} : rndI w N = petI N w := by
  unfold petI rndI
  rw [gcI_comm]
theorem len_sw {N w : Int} : lenI w N = lenI N w := by
  unfold lenI
  rw [gcI_comm, Int.mul_comm]
theorem plain_iff {N w : Int} (h1 : 0 < N) (h2 : 0 < w) : gcI N w = 1 ↔ petI N w = N := by
  have q := gnum h1 h2
  constructor
  · intro h
    have := q.en
    rw [h, Int.one_mul] at this
    exact this.symm
  · intro h
    have e := q.en
    rw [h] at e
    have : 1 * N = gcI N w * N := by rw [Int.one_mul]; exact e
    exact (Int.eq_of_mul_eq_mul_right (by omega) this).symm
theorem turn_top {N w : Int} {s : Str} (h1 : 0 < N) (h2 : 0 < w) : turnI N w s * N * w = if s = sIn then lenI N w * N - lenI N w * w else lenI N w * N + lenI N w * w := by
  have q := gnum h1 h2
  have e1 : petI N w * N * w = lenI N w * N := by rw [q.l, Int.mul_right_comm]
  have e2 : rndI N w * N * w = lenI N w * w := by rw [← q.l2]
  unfold turnI
  split
  · rw [Int.sub_mul, Int.sub_mul, e1, e2]
  · rw [Int.add_mul, Int.add_mul, e1, e2]
theorem pet_le {N w : Int} (h1 : 0 < N) : petI N w ≤ N := by
  unfold petI
  exact Int.ediv_le_self _ (by omega)
theorem rnd_le {N w : Int} (h1 : 0 < w) : rndI N w ≤ w := by
  unfold rndI
  exact Int.ediv_le_self _ (by omega)
theorem turn_pos {N w : Int} {s : Str} (g : Gok N w s) : 0 < turnI N w s := by
  have := g.n3
  have := g.w2
  have q := gnum (N := N) (w := w) (by omega) (by omega)
  have a0 := q.a0
  have b0 := q.b0
  unfold turnI
  rcases g.side with ⟨rfl, h⟩ | rfl
  · rw [if_pos rfl]
    have e1 := q.en
    have e2 := q.ew
    have : gcI N w * rndI N w < gcI N w * petI N w := by rw [← e1, ← e2]; exact h
    have := Int.lt_of_mul_lt_mul_left this (Int.le_of_lt q.g0)
    omega
  · rw [if_neg (by decide +kernel)]
    omega

theorem whole_le {N w : Int} {s : Str} (g : Gok N w s) : 0 < N * w ∧ N * w ≤ 22500 := by
  have := g.n3
  have := g.n150
  have := g.w2
  have := g.w150
  exact ⟨Int.mul_pos (by omega) (by omega), Int.mul_le_mul (show N ≤ 150 by omega) (show w ≤ 150 by omega) (by omega) (by omega)⟩
theorem lenI_bd {N w : Int} {s : Str} (g : Gok N w s) : 0 < lenI N w ∧ lenI N w ≤ 22500 := by
  have h1 := whole_le g
  have := g.n3
  have := g.w2
  have q := gnum (N := N) (w := w) (by omega) (by omega)
  refine ⟨by rw [q.l]; exact Int.mul_pos q.a0 (by omega), ?_⟩
  have : lenI N w ≤ N * w := Int.ediv_le_self _ (by omega)
  omega
theorem pet_bd {N w : Int} {s : Str} (g : Gok N w s) : 0 < petI N w ∧ petI N w ≤ 150 := by
  have := g.n3
  have := g.n150
  have := g.w2
  have h := gnum (N := N) (w := w) (by omega) (by omega)
  have h2 := pet_le (N := N) (w := w) (by omega)
  have := h.a0
  omega
theorem rnd_bd {N w : Int} {s : Str} (g : Gok N w s) : 0 < rndI N w ∧ rndI N w ≤ 150 := by
  have := g.n3
  have := g.w150
  have := g.w2
  have h := gnum (N := N) (w := w) (by omega) (by omega)
  have h2 := rnd_le (N := N) (w := w) (by omega)
  have := h.b0
  omega

def s_is_int : MS := (sRet (pAnd (pUn (hIsi "int") (pVar 0)) (pAnd (pNot (pUn (hIsi "bool") (pVar 0))) (pChain hLe hLe (pVar 1) (pVar 0) (pVar 2)))))
def m_is_int : MF := mkF 3 3 s_is_int
def s_is_gear : MS := (sSeq (sIf (bOr (bNot (bTest (pUn (hIsi "tuple") (pVar 0)))) (bTest (pOp hNe (pCB hLen (aCons (pVar 0) aNil)) (pC (.int 3))))) (sRet (pC (.bool false))) sNext)
  (sSeq (sIf (bOr (bNot (bTest (pCall m_is_int (aCons (pOp hIx (pVar 0) (pC (.int 0))) (aCons (pC (.int 3)) (aCons (pC (.int 150)) aNil)))))) (bNot (bTest (pCall m_is_int (aCons (pOp hIx (pVar 0) (pC (.int 1))) (aCons (pC (.int 2)) (aCons (pC (.int 150)) aNil))))))) (sRet (pC (.bool false))) sNext)
  (sSeq (sIf (bOr (bNot (bTest (pUn (hIsi "str") (pOp hIx (pVar 0) (pC (.int 2)))))) (bTest (pOp hNiT (pOp hIx (pVar 0) (pC (.int 2))) (pTup (aCons (pC (.str "in")) (aCons (pC (.str "out")) aNil)))))) (sRet (pC (.bool false))) sNext)
  (sRet (pOr (pOp hEq (pOp hIx (pVar 0) (pC (.int 2))) (pC (.str "out"))) (pOp hLt (pOp hIx (pVar 0) (pC (.int 1))) (pOp hIx (pVar 0) (pC (.int 0)))))))))
def m_is_gear : MF := mkF 1 1 s_is_gear
def s_check_gear : MS := (sIf (bNot (bTest (pCall m_is_gear (aCons (pVar 0) aNil)))) (sRz "BadGear") sNext)
def m_check_gear : MF := mkF 1 1 s_check_gear
def s_check_tooth : MS := (sIf (bNot (bTest (pCall m_is_int (aCons (pVar 1) (aCons (pC (.int 0)) (aCons (pOp hSub (pOp hIx (pVar 0) (pC (.int 0))) (pC (.int 1))) aNil)))))) (sRz "BadTooth") sNext)
def m_check_tooth : MF := mkF 2 2 s_check_tooth
def s_check_arcs : MS := (sIf (bNot (bTest (pCall m_is_int (aCons (pVar 0) (aCons (pC (.int 0)) (aCons (pC (.int 150)) aNil)))))) (sRz "BadNumber") sNext)
def m_check_arcs : MF := mkF 1 1 s_check_arcs
def s_cover_of : MS := (sSeq (sSet 3 (pFz (pOp hMul (pVar 2) (pOp hIx (pVar 0) (pC (.int 1))))))
  (sSeq (sOwn 4 (pOp hRep (pLst (aCons (pOp hDiv (pVar 3) (pOp hIx (pVar 0) (pC (.int 0)))) aNil)) (pOp hIx (pVar 0) (pC (.int 0)))))
  (sSeq (sFor (iR1 (pOp hMod (pVar 3) (pOp hIx (pVar 0) (pC (.int 0))))) (.one 5) (sAugI 4 (pOp hMod (pOp hAdd (pVar 1) (pVar 5)) (pOp hIx (pVar 0) (pC (.int 0)))) (pC (.int 1))))
  (sRetO 4))))
def m_cover_of : MF := mkF 3 6 s_cover_of
def s_cover : MS := (sSeq (sDrop (pCall m_check_gear (aCons (pVar 0) aNil)))
  (sSeq (sDrop (pCall m_check_tooth (aCons (pVar 0) (aCons (pVar 1) aNil))))
  (sSeq (sDrop (pCall m_check_arcs (aCons (pVar 2) aNil)))
  (sRetN (pCallN m_cover_of (aCons (pVar 0) (aCons (pVar 1) (aCons (pVar 2) aNil))))))))
def m_cover : MF := mkF 3 3 s_cover
def s_all_covered_after : MS := (sSeq (sDrop (pCall m_check_gear (aCons (pVar 0) aNil)))
  (sRet (pUn hNeg (pOp hDiv (pUn hNeg (pOp hIx (pVar 0) (pC (.int 0)))) (pOp hIx (pVar 0) (pC (.int 1)))))))
def m_all_covered_after : MF := mkF 1 1 s_all_covered_after
def s_arcs_over : MS := (sSeq (sDrop (pCall m_check_gear (aCons (pVar 0) aNil)))
  (sSeq (sDrop (pCall m_check_tooth (aCons (pVar 0) (aCons (pVar 1) aNil))))
  (sSeq (sDrop (pCall m_check_arcs (aCons (pVar 2) aNil)))
  (sSeq (sDrop (pCall m_check_tooth (aCons (pVar 0) (aCons (pVar 3) aNil))))
  (sSeq (sOwn 4 (pLst aNil))
  (sSeq (sSet 5 (pFz (pOp hMod (pOp hSub (pVar 3) (pVar 1)) (pOp hIx (pVar 0) (pC (.int 0))))))
  (sSeq (sWhile (bTest (pOp hLt (pVar 5) (pOp hMul (pVar 2) (pOp hIx (pVar 0) (pC (.int 1)))))) (sSeq (sApp 4 (pOp hDiv (pVar 5) (pOp hIx (pVar 0) (pC (.int 1)))))
  (sAug 5 (pOp hIx (pVar 0) (pC (.int 0))))))
  (sRetO 4))))))))
def m_arcs_over : MF := mkF 4 6 s_arcs_over
def s_common : MS := (sSeq (sWhile (bTest (pOp hNe (pVar 1) (pC (.int 0)))) (sPar 0 1 (pVal 1) (pFz (pOp hMod (pVar 0) (pVar 1)))))
  (sRet (pVar 0)))
def m_common : MF := mkF 2 2 s_common
def s_shared_of : MS := (sRet (pCall m_common (aCons (pOp hIx (pVar 0) (pC (.int 0))) (aCons (pOp hIx (pVar 0) (pC (.int 1))) aNil))))
def m_shared_of : MF := mkF 1 1 s_shared_of
def s_petals_of : MS := (sRet (pOp hDiv (pOp hIx (pVar 0) (pC (.int 0))) (pCall m_shared_of (aCons (pVar 0) aNil))))
def m_petals_of : MF := mkF 1 1 s_petals_of
def s_petals : MS := (sSeq (sDrop (pCall m_check_gear (aCons (pVar 0) aNil)))
  (sRet (pCall m_petals_of (aCons (pVar 0) aNil))))
def m_petals : MF := mkF 1 1 s_petals
def s_rounds_of : MS := (sRet (pOp hDiv (pOp hIx (pVar 0) (pC (.int 1))) (pCall m_shared_of (aCons (pVar 0) aNil))))
def m_rounds_of : MF := mkF 1 1 s_rounds_of
def s_rounds : MS := (sSeq (sDrop (pCall m_check_gear (aCons (pVar 0) aNil)))
  (sRet (pCall m_rounds_of (aCons (pVar 0) aNil))))
def m_rounds : MF := mkF 1 1 s_rounds
def s_law : MS := (sSeq (sStart 0 1)
  (sSeq (wsSet 2 (wGear 1))
  (sSeq (wsPar 3 4 (wDraw 1 (wP (pFz (pOp hIx (pVar 2) (pC (.int 0)))))) (wDraw 1 (wPick 1 (wP (pLst (aCons (pC (.int 6)) (aCons (pC (.int 40)) aNil)))))))
  (sSeq (sOwn 5 (pOp hRep (pLst (aCons (pC (.int 0)) aNil)) (pOp hIx (pVar 2) (pC (.int 0)))))
  (sSeq (sLL 6 (iR1 (pOp hIx (pVar 2) (pC (.int 0)))))
  (sSeq (sSet 7 (pVal 3))
  (sSeq (sFor (iR1 (pVar 4)) (.one 8) (sFor (iR1 (pOp hIx (pVar 2) (pC (.int 1)))) (.one 9) (sSeq (sPut 5 (pVar 7) (pOp hAdd (pOp hIx (pVar 5) (pVar 7)) (pC (.int 1))))
  (sSeq (sLLApp 6 (pVar 7) (pVar 8))
  (sSet 7 (pFz (pOp hMod (pOp hAdd (pVar 7) (pC (.int 1))) (pOp hIx (pVar 2) (pC (.int 0))))))))))
  (sSeq (sIf (bOr (bTest (pOp hNe (pCallN m_cover (aCons (pVar 2) (aCons (pVar 3) (aCons (pVar 4) aNil)))) (pVar 5))) (bTest (pOp hNe (pCB hSum (aCons (pVar 5) aNil)) (pOp hMul (pVar 4) (pOp hIx (pVar 2) (pC (.int 1))))))) (sRet (pC (.bool false))) sNext)
  (sSeq (wsSet 10 (wDraw 1 (wP (pFz (pOp hIx (pVar 2) (pC (.int 0)))))))
  (sSeq (sIf (bTest (pOp hNe (pCallN m_arcs_over (aCons (pVar 2) (aCons (pVar 3) (aCons (pVar 4) (aCons (pVar 10) aNil))))) (pLLx 6 (pVar 10)))) (sRet (pC (.bool false))) sNext)
  (sSeq (sSet 11 (pFn (pCallN m_cover (aCons (pVar 2) (aCons (pVar 3) (aCons (pCall m_petals (aCons (pVar 2) aNil)) aNil))))))
  (sSeq (sIf (bTest (pOp hNe (pVar 11) (pOp hRep (pLst (aCons (pCall m_rounds (aCons (pVar 2) aNil)) aNil)) (pOp hIx (pVar 2) (pC (.int 0)))))) (sRet (pC (.bool false))) sNext)
  (sSeq (sSet 12 (pFz (pCall m_all_covered_after (aCons (pVar 2) aNil))))
  (sSeq (sIf (bOr (bTest (pOp hLt (pCB hMin1 (aCons (pCallN m_cover (aCons (pVar 2) (aCons (pVar 3) (aCons (pVar 12) aNil)))) aNil)) (pC (.int 1)))) (bAnd (bTest (pOp hGt (pVar 12) (pC (.int 0)))) (bTest (pOp hGt (pCB hMin1 (aCons (pCallN m_cover (aCons (pVar 2) (aCons (pVar 3) (aCons (pOp hSub (pVar 12) (pC (.int 1))) aNil)))) aNil)) (pC (.int 0)))))) (sRet (pC (.bool false))) sNext)
  (sSeq (sSet 13 (pFn (pCallN m_cover (aCons (pVar 2) (aCons (pVar 3) (aCons (pOp hAdd (pVar 4) (pC (.int 1))) aNil))))))
  (sSeq (sIf (bOr (bTest (pOp hNe (pOp hSub (pCB hSum (aCons (pVar 13) aNil)) (pCB hSum (aCons (pVar 5) aNil))) (pOp hIx (pVar 2) (pC (.int 1))))) (bTest (pOp hGt (pOp hSub (pCB hMax1 (aCons (pOp hCat (pLv 5) (pLst (aCons (pC (.int 0)) aNil))) aNil)) (pCB hMin1 (aCons (pVar 5) aNil))) (pC (.int 1))))) (sRet (pC (.bool false))) sNext)
  (sSeq (sSet 14 (pFn (pCallN m_arcs_over (aCons (pVar 2) (aCons (pVar 3) (aCons (pCall m_petals (aCons (pVar 2) aNil)) (aCons (pVar 10) aNil)))))))
  (sSeq (sIf (bOr (bTest (pOp hNe (pCB hLen (aCons (pVar 14) aNil)) (pCall m_rounds (aCons (pVar 2) aNil)))) (bOr (bTest (pOp hNe (pVar 14) (pCB hSort (aCons (pVar 14) aNil)))) (bTest (pOp hGe (pCB hMax1 (aCons (pVar 14) aNil)) (pCall m_petals (aCons (pVar 2) aNil)))))) (sRet (pC (.bool false))) sNext)
  (sSeq (sSet 15 (pFn (pCallN m_cover (aCons (pVar 2) (aCons (pOp hMod (pOp hAdd (pVar 3) (pC (.int 1))) (pOp hIx (pVar 2) (pC (.int 0)))) (aCons (pVar 4) aNil))))))
  (sRet (pAnd (pOp hEq (pOp hCat (pSlL (pVar 15) (oSome (pC (.int 1))) oNone) (pSlL (pVar 15) oNone (oSome (pC (.int 1))))) (pVar 5)) (pAnd (pOp hEq (pCallN m_cover (aCons (pVar 2) (aCons (pVar 3) (aCons (pC (.int 0)) aNil)))) (pOp hRep (pLst (aCons (pC (.int 0)) aNil)) (pOp hIx (pVar 2) (pC (.int 0))))) (pOp hEq (pCallN m_arcs_over (aCons (pVar 2) (aCons (pVar 3) (aCons (pC (.int 0)) (aCons (pVar 10) aNil))))) (pLst aNil))))))))))))))))))))))))

/-! ### wheelcurves/errors.py: what the mirrors give -/
theorem hNiT_2 {x a b : Str} : hNiT (.str x) (.tuple [.str a, .str b]) = .ok (.bool (!decide (x ∈ [a, b]))) := rfl
theorem hInT_2 {x a b : Str} : hInT (.str x) (.tuple [.str a, .str b]) = .ok (.bool (decide (x ∈ [a, b]))) := rfl
theorem hEq_str {a b : Str} (ha : PyData.strOk a = true) (hb : PyData.strOk b = true) : hEq (.str a) (.str b) = .ok (.bool (decide (a = b))) := by
  unfold hEq
  rw [shp_str ha, shp_str hb, PyData.eqv, Bool.beq_eq_decide_eq] <;> rfl
theorem hNe_str {a b : Str} (ha : PyData.strOk a = true) (hb : PyData.strOk b = true) : hNe (.str a) (.str b) = .ok (.bool (!decide (a = b))) := by
  unfold hNe
  rw [shp_str ha, shp_str hb, PyData.eqv, Bool.beq_eq_decide_eq] <;> rfl
theorem ok_in : PyData.strOk sIn = true := by decide +kernel
theorem ok_out : PyData.strOk sOut = true := by decide +kernel
theorem in_ne_out : sIn ≠ sOut := by decide +kernel
theorem side_str {s : Str} (h : s = sIn ∨ s = sOut) : PyData.strOk s = true := by rcases h with rfl | rfl <;> decide +kernel
theorem hEq_in {s : Str} (h : s = sIn ∨ s = sOut) : hEq (.str s) (.str sIn) = .ok (.bool (decide (s = sIn))) := hEq_str (side_str h) ok_in
theorem hEq_out {s : Str} (h : s = sIn ∨ s = sOut) : hEq (.str s) (.str sOut) = .ok (.bool (decide (s = sOut))) := hEq_str (side_str h) ok_out
theorem r_is_int {d : Dt} {lo hi : Int} : m_is_int [d, .int lo, .int hi] = .ok (.val (.bool (isIntD d lo hi))) := by
  cases d with
  | int i =>
    simp only [evs, sSeq_e, Nat.reduceSub, m_is_int, s_is_int]
    rfl
  | dict x =>
    simp only [evs, sSeq_e, Nat.reduceSub, m_is_int, s_is_int, isT]
    rfl
  | _ =>
    simp only [evs, sSeq_e, Nat.reduceSub, m_is_int, s_is_int]
    rfl
theorem r_is_int_i {i lo hi : Int} : m_is_int [.int i, .int lo, .int hi] = .ok (.val (.bool (decide (lo ≤ i) && decide (i ≤ hi)))) := r_is_int
theorem r_is_int_ok {i lo hi : Int} (h1 : lo ≤ i) (h2 : i ≤ hi) : m_is_int [.int i, .int lo, .int hi] = .ok (.val (.bool true)) := by
  rw [r_is_int_i, decide_eq_true h1, decide_eq_true h2] <;> rfl
def gearB (N w : Int) (s : Str) : Bool := decide (3 ≤ N ∧ N ≤ 150 ∧ 2 ≤ w ∧ w ≤ 150 ∧ (s = sOut ∨ w < N))
theorem gearB_iff {N w : Int} {s : Str} (hs : s = sIn ∨ s = sOut) : gearB N w s = true ↔ Gok N w s := by
  unfold gearB
  rw [decide_eq_true_eq]
  constructor
  · rintro ⟨h1, h2, h3, h4, h5⟩
    refine ⟨h1, h2, h3, h4, ?_⟩
    rcases hs with h | h
    · rcases h5 with h5 | h5
      · exact .inr h5
      · exact .inl ⟨h, h5⟩
    · exact .inr h
  · intro g
    exact ⟨g.n3, g.n150, g.w2, g.w150, g.side.elim (fun h => .inr h.2) .inl⟩
theorem r_is_gear {N w : Int} {s : Str} (hs : s = sIn ∨ s = sOut) : m_is_gear [gear N w s] = .ok (.val (.bool (gearB N w s))) := by
  have h2 : decide (s ∈ [sIn, sOut]) = true := by
    rw [decide_eq_true_eq]
    rcases hs with rfl | rfl <;> simp
  have h3 : decide ((([PyData.int N, .int w, .str s].length : Nat) : Int) = 3) = true := by simp
  simp only [evs, sSeq_e, Nat.reduceSub, m_is_gear, s_is_gear, r_is_int_i, hNiT_2, h2, h3, hEq_out hs, Bool.not_true, Bool.not_false]
  cases q1 : decide (3 ≤ N) <;> cases q2 : decide (N ≤ 150) <;> cases q3 : decide (2 ≤ w) <;> cases q4 : decide (w ≤ 150) <;> simp only [evs, sSeq_e, Nat.reduceSub, Bool.and_true, Bool.and_false, Bool.true_and, Bool.false_and, Bool.not_true, Bool.not_false, r_is_int_i, hNiT_2, h2, hEq_out hs]
  all_goals
    have e : gearB N w s = _ := rfl
    unfold gearB at e
    simp only [decide_eq_true_eq, decide_eq_false_iff_not] at q1 q2 q3 q4
    refine congrArg (fun b => O.ok (Rs.val (.bool b))) ?_
    unfold gearB
    try (first | (rw [eq_comm, decide_eq_false_iff_not]; omega) | (rw [← Bool.decide_or]; exact decide_eq_decide.mpr ⟨fun h => ⟨q1, q2, q3, q4, h⟩, fun h => h.2.2.2.2⟩))
theorem r_is_gear_ok {N w : Int} {s : Str} (g : Gok N w s) : m_is_gear [gear N w s] = .ok (.val (.bool true)) := by
  rw [r_is_gear (side2 g), (gearB_iff (side2 g)).mpr g]
theorem r_check_gear {N w : Int} {s : Str} (g : Gok N w s) : m_check_gear [gear N w s] = .ok (.val .none) := by
  simp only [evs, sSeq_e, Nat.reduceSub, m_check_gear, s_check_gear, r_is_gear_ok g, Bool.not_true]
theorem r_check_tooth {N w t : Int} {s : Str} (h1 : 0 ≤ t) (h2 : t < N) : m_check_tooth [gear N w s, .int t] = .ok (.val .none) := by
  simp only [evs, sSeq_e, Nat.reduceSub, m_check_tooth, s_check_tooth, r_is_int_ok h1 (show t ≤ N - 1 by omega), Bool.not_true]
theorem r_check_arcs {t : Int} (h1 : 0 ≤ t) (h2 : t ≤ 150) : m_check_arcs [.int t] = .ok (.val .none) := by
  simp only [evs, sSeq_e, Nat.reduceSub, m_check_arcs, s_check_arcs, r_is_int_ok h1 h2, Bool.not_true]

/-! ### wheelcurves/gears.py: what the mirrors give -/
theorem whN_succ {t : MB} {b : MS} {n : Nat} {ρ : MEnv} : whN t b (n + 1) ρ = ofO (t ρ) ρ fun c => bif c then (b ρ).bind (forK (whN t b n)) else .ret (.nx ρ) := rfl
theorem wh_common : ∀ (n : Nat) (x y : Int), 0 ≤ x → 0 ≤ y → y.toNat < n → whN (bTest (pOp hNe (pVar 1) (pC (.int 0)))) (sPar 0 1 (pVal 1) (pFz (pOp hMod (pVar 0) (pVar 1)))) n [.val (.int x), .val (.int y)] = .ret (.nx [.val (.int (gcI x y)), .val (.int 0)])
  | 0, _, _, _, _, h => absurd h (Nat.not_lt_zero _)
  | n + 1, x, y, hx, hy, h => by
    rw [whN_succ]
    by_cases e : y = 0
    · subst e
      have : gcI x 0 = x := by
        unfold gcI
        rw [Int.gcd_zero_right]
        omega
      rw [this]
      simp only [evs, sSeq_e, Nat.reduceSub, decide_true]
    · have hy' : 0 < y := by omega
      have l := Int.emod_lt_of_pos x hy'
      have l0 := Int.emod_nonneg x e
      simp only [evs, sSeq_e, Nat.reduceSub, decide_eq_false e, hMod_i hy']
      rw [wh_common n y (x % y) hy l0 (by omega)]
      have : gcI y (x % y) = gcI x y := by
        unfold gcI
        rw [gcd_step hx hy']
      rw [this]
theorem r_common {a b : Int} (ha : 0 ≤ a) (hb : 0 ≤ b) (h : b < 1000000) : m_common [.int a, .int b] = .ok (.val (.int (gcI a b))) := by
  simp only [evs, sSeq_e, Nat.reduceSub, m_common, s_common, sWhile, wh_common 1000000 a b ha hb (by omega)]
theorem r_shared_of {N w : Int} {s : Str} (g : Gok N w s) : m_shared_of [gear N w s] = .ok (.val (.int (gcI N w))) := by
  have := g.n3
  have := g.w2
  have := g.w150
  simp only [evs, sSeq_e, Nat.reduceSub, m_shared_of, s_shared_of, r_common (show 0 ≤ N by omega) (show 0 ≤ w by omega) (by omega)]
theorem r_petals_of {N w : Int} {s : Str} (g : Gok N w s) : m_petals_of [gear N w s] = .ok (.val (.int (petI N w))) := by
  simp only [evs, sSeq_e, Nat.reduceSub, m_petals_of, s_petals_of, r_shared_of g, hDiv_i (gcI_small g)]
  rfl
theorem r_petals {N w : Int} {s : Str} (g : Gok N w s) : m_petals [gear N w s] = .ok (.val (.int (petI N w))) := by
  simp only [evs, sSeq_e, Nat.reduceSub, m_petals, s_petals, r_check_gear g, r_petals_of g]
theorem r_rounds_of {N w : Int} {s : Str} (g : Gok N w s) : m_rounds_of [gear N w s] = .ok (.val (.int (rndI N w))) := by
  simp only [evs, sSeq_e, Nat.reduceSub, m_rounds_of, s_rounds_of, r_shared_of g, hDiv_i (gcI_small g)]
  rfl
theorem r_rounds {N w : Int} {s : Str} (g : Gok N w s) : m_rounds [gear N w s] = .ok (.val (.int (rndI N w))) := by
  simp only [evs, sSeq_e, Nat.reduceSub, m_rounds, s_rounds, r_check_gear g, r_rounds_of g]

/-! ### comprehensions, loops, plainly -/
theorem pCallE {m : MF} {a : MA} {ρ : MEnv} {ds : List Dt} {d : Dt} (h : a ρ = .ok ds) (h' : m ds = .ok (.val d)) : pCall m a ρ = .ok d := by simp only [evs, sSeq_e, Nat.reduceSub, h, h']
theorem compL_ok {α : Type} {g : Tg} {t : MB} {e : MP} {ρ : MEnv} {dt : α → Dt} {f : α → Bool} {v : α → Dt} : ∀ {l : List α}, (∀ x ∈ l, ∃ ρ', g.put (dt x) ρ = .ok ρ' ∧ t ρ' = .ok (f x) ∧ (f x = true → e ρ' = .ok (v x))) → compL g t e ρ (l.map dt) = .ok ((l.filter f).map v)
  | [], _ => rfl
  | x :: l, h => by
    obtain ⟨ρ', h1, h2, h3⟩ := h x List.mem_cons_self
    rw [List.map_cons, compL_cons, h1, O.bind_ok, h2, O.nx_ok, O.bind_ok, compL_ok (l := l) fun y hy => h y (List.mem_cons_of_mem _ hy)]
    cases q : f x with
    | true => rw [h3 q, List.filter_cons, if_pos q] <;> rfl
    | false =>
      rw [List.filter_cons, if_neg (by rw [q]; exact Bool.false_ne_true)]
      rfl
theorem pComp_ok {α : Type} (l : List α) (dt : α → Dt) (f : α → Bool) (v : α → Dt) {src : MI} {g : Tg} {vs : List Nat} {t : MB} {e : MP} {ρ : MEnv} (hs : src ρ = .ok (l.map dt)) (hl : l.length ≤ 100000)
    (h : ∀ x ∈ l, ∃ ρ', g.put (dt x) (wipeE ρ vs) = .ok ρ' ∧ t ρ' = .ok (f x) ∧ (f x = true → e ρ' = .ok (v x) ∧ noLst (v x) = true)) : pComp src g vs t e ρ = .ok (.list ((l.filter f).map v)) := by
  unfold pComp
  rw [hs, O.bind_ok, if_pos (by rw [List.length_map]; exact hl), compL_ok (f := f) (v := v) fun x hx => by
    obtain ⟨ρ', h1, h2, h3⟩ := h x hx
    exact ⟨ρ', h1, h2, fun q => by
      obtain ⟨h4, h5⟩ := h3 q
      rw [pFz_e, h4, O.bind_ok]
      exact if_pos h5⟩] <;> rfl
theorem pComp_all {α : Type} (l : List α) (dt : α → Dt) (v : α → Dt) {src : MI} {g : Tg} {vs : List Nat} {e : MP} {ρ : MEnv} (hs : src ρ = .ok (l.map dt)) (hl : l.length ≤ 100000)
    (h : ∀ x ∈ l, ∃ ρ', g.put (dt x) (wipeE ρ vs) = .ok ρ' ∧ e ρ' = .ok (v x) ∧ noLst (v x) = true) : pComp src g vs bYes e ρ = .ok (.list (l.map v)) := by
  rw [pComp_ok l dt (fun _ => true) v hs hl fun x hx => by
    obtain ⟨ρ', h1, h2, h3⟩ := h x hx
    exact ⟨ρ', h1, rfl, fun _ => ⟨h2, h3⟩⟩, List.filter_eq_self.mpr fun _ _ => rfl]
theorem noLst_int {i : Int} : noLst (.int i) = true := by simp [noLst]
theorem noLst_str {i : Str} : noLst (.str i) = true := by simp [noLst]
theorem noLst_bool {i : Bool} : noLst (.bool i) = true := by simp [noLst]
theorem noLst_ii {i j : Int} : noLst (.tuple [.int i, .int j]) = true := by simp [noLst, noLsts]
theorem noLst_gear {i j : Int} {s : Str} : noLst (.tuple [.int i, .int j, .str s]) = true := by simp [noLst, noLsts]
/-- a for that only goes on: an invariant of turn and cells -/
theorem forL_inv {α : Type} {dt : α → Dt} {g : Tg} {b : MS} {Q : Out → Prop} {X : Str → MEnv → Prop} (Pv : Nat → MEnv → Prop) : ∀ (l : List α) (i : Nat) (ρ : MEnv), Pv i ρ →
    (∀ (j : Nat) (x : α) (ρ : MEnv), l[j]? = some x → Pv (i + j) ρ → ∃ ρ1, g.put (dt x) ρ = .ok ρ1 ∧ (b ρ1).all (fun o => match o with | .nx ρ' => Pv (i + j + 1) ρ' | .ct ρ' => Pv (i + j + 1) ρ' | .bk _ => False | .rt r ρ' => Q (.rt r ρ')) X) →
    (∀ ρ, Pv (i + l.length) ρ → Q (.nx ρ)) → (forL g b (l.map dt) ρ).all Q X
  | [], i, ρ, h, _, hd => hd ρ h
  | x :: l, i, ρ, h, hs, hd => by
    obtain ⟨ρ1, h1, h2⟩ := hs 0 x ρ rfl h
    show (ofO (g.put (dt x) ρ) ρ fun ρ1 => (b ρ1).bind (forK (forL g b (l.map dt)))).all Q X
    rw [h1, ofO_ok, T.all_bind]
    refine T.all_mono (fun o z => ?_) (fun _ _ z => z) h2
    have next : ∀ ρ', Pv (i + 1) ρ' → (forL g b (l.map dt) ρ').all Q X := fun ρ' hp => forL_inv Pv l (i + 1) ρ' hp (fun j y ρ hy hp => by
      have := hs (j + 1) y ρ hy (by rw [show i + (j + 1) = i + 1 + j by omega]; exact hp)
      rw [show i + (j + 1) = i + 1 + j by omega] at this
      exact this) fun ρ hp => hd ρ (by rw [List.length_cons, show i + (l.length + 1) = i + 1 + l.length by omega]; exact hp)
    cases o with
    | nx ρ' => exact next ρ' z
    | ct ρ' => exact next ρ' z
    | bk ρ' => exact z.elim
    | rt r ρ' => exact z
/-- what is returned -/
def IsT : Out → Prop := fun out => ∃ ρ, out = .rt (.val (.bool true)) ρ
theorem isT_rt {b : Bool} {ρ : MEnv} (h : b = true) : IsT (.rt (.val (.bool b)) ρ) := ⟨ρ, by rw [h]⟩
def NoX : Str → MEnv → Prop := fun _ _ => False
theorem all_seq {s t : MS} {ρ : MEnv} {Q : Out → Prop} {X : Str → MEnv → Prop} (h : (s ρ).all (fun o => (seqK t o).all Q X) X) : (sSeq s t ρ).all Q X := (T.all_bind (s ρ)).mpr h
/-- one statement that gives new cells -/
theorem all_nx {s t : MS} {ρ ρ' : MEnv} {Q : Out → Prop} {X : Str → MEnv → Prop} (h : s ρ = .ret (.nx ρ')) (k : (t ρ').all Q X) : (sSeq s t ρ).all Q X := all_seq (by rw [h]; exact k)
theorem mem_isR {n : Int} {d : Dt} : isR n d ↔ ∃ r, d = .int r ∧ 0 ≤ r ∧ r < n := Iff.rfl
/-- a while -/
theorem wh_go {t : MB} {b : MS} {n : Nat} {ρ ρ' : MEnv} (h : t ρ = .ok true) (h' : b ρ = .ret (.nx ρ')) : whN t b (n + 1) ρ = whN t b n ρ' := by
  rw [whN_succ, h, ofO_ok, ctrue, h', T.bind_ret, forK_nx]
theorem wh_end {t : MB} {b : MS} {n : Nat} {ρ : MEnv} (h : t ρ = .ok false) : whN t b (n + 1) ρ = .ret (.nx ρ) := by
  rw [whN_succ, h, ofO_ok, cfalse]
section
variable {s t : MS} {ρ : MEnv} {Q : Out → Prop} {X : Str → MEnv → Prop} {a : MP} {c : MB} {d : Dt} {i j : Nat} {e f : MX Dt}
theorem st_set (h : a ρ = .ok d) (k : (t (ρ.set i (cellOf d))).all Q X) : (sSeq (sSet i a) t ρ).all Q X := all_nx (by rw [sSet_e, h, ofO_ok]) k
theorem st_drop (h : a ρ = .ok d) (k : (t ρ).all Q X) : (sSeq (sDrop a) t ρ).all Q X := all_nx (by rw [sDrop_e, h, ofO_ok]) k
theorem st_no {u : MS} (h : c ρ = .ok false) (k : (t ρ).all Q X) : (sSeq (sIf c u sNext) t ρ).all Q X := all_nx (by rw [sIf_e, h, ofO_ok, cfalse, sNext_e]) k
theorem st_if {u v : MS} {b : Bool} (h : c ρ = .ok b) (h1 : b = true → (u ρ).all (fun o => (seqK t o).all Q X) X) (h2 : b = false → (v ρ).all (fun o => (seqK t o).all Q X) X) : (sSeq (sIf c u v) t ρ).all Q X := all_seq (by
  rw [sIf_e, h, ofO_ok]
  cases b with
  | true => exact h1 rfl
  | false => exact h2 rfl)
theorem sz_no {u : MS} (h : c ρ = .ok false) (k : Q (.nx ρ)) : (sIf c u sNext ρ).all Q X := by
  rw [sIf_e, h, ofO_ok, cfalse, sNext_e]
  exact k
theorem sz_if {u v : MS} {b : Bool} (h : c ρ = .ok b) (h1 : b = true → (u ρ).all Q X) (h2 : b = false → (v ρ).all Q X) : (sIf c u v ρ).all Q X := by
  rw [sIf_e, h, ofO_ok]
  cases b with
  | true => exact h1 rfl
  | false => exact h2 rfl
theorem st_wset (h : (e ρ).all (fun z => (t (z.2.set i (cellOf z.1))).all Q X) X) : (sSeq (wsSet i e) t ρ).all Q X := all_seq (by
  rw [wsSet_e, T.all_bind]
  exact h)
theorem st_wpar (h : (e ρ).all (fun y => (f y.2).all (fun z => (t ((z.2.set i (cellOf y.1)).set j (cellOf z.1))).all Q X) X) X) : (sSeq (wsPar i j e f) t ρ).all Q X := all_seq (by
  rw [wsPar_e, T.all_bind]
  refine T.all_mono (fun y hy => ?_) (fun _ _ z => z) h
  rw [T.all_bind]
  exact hy)
theorem st_wasg {g : Tg} (h : (e ρ).all (fun z => (ofO (g.put z.1 z.2) z.2 fun ρ' => t ρ').all Q X) X) : (sSeq (wsAsg g e) t ρ).all Q X := all_seq (by
  rw [wsAsg_e, T.all_bind]
  refine T.all_mono (fun z hz => ?_) (fun _ _ z => z) h
  rw [ofO_all] at hz ⊢
  exact hz)
theorem st_wif {u v : MS} {x : MX Bool} (h : (x ρ).all (fun z => (bif z.1 then u z.2 else v z.2).all (fun o => (seqK t o).all Q X) X) X) : (sSeq (wsIf x u v) t ρ).all Q X := all_seq (by
  rw [wsIf_e, T.all_bind]
  exact h)
theorem st_start {ns : List Int} (h : at_ ρ i = .val (.list (ns.map .int))) (hl : ns.length ≤ 63) (k : ∀ p q, (t (ρ.set j (.dr p q))).all Q X) : (sSeq (sStart i j) t ρ).all Q X := all_seq (by
  rw [sStart_e, h, stC_ok hl]
  exact k)
theorem st_for {α : Type} {src : MI} {g : Tg} {b : MS} (l : List α) (dt : α → Dt) (Pv : Nat → MEnv → Prop) (h : src ρ = .ok (l.map dt)) (h0 : Pv 0 ρ)
    (hs : ∀ (j : Nat) (x : α) (ρ : MEnv), l[j]? = some x → Pv j ρ → ∃ ρ1, g.put (dt x) ρ = .ok ρ1 ∧ (b ρ1).all (fun o => match o with | .nx ρ' => Pv (j + 1) ρ' | .ct ρ' => Pv (j + 1) ρ' | .bk _ => False | .rt r ρ' => Q (.rt r ρ')) X)
    (hd : ∀ ρ, Pv l.length ρ → (t ρ).all Q X) : (sSeq (sFor src g b) t ρ).all Q X := all_seq (by
  rw [sFor_e, h, ofO_ok]
  refine forL_inv Pv l 0 ρ h0 (fun j x ρ hx hp => ?_) fun ρ hp => ?_
  · rw [Nat.zero_add] at hp
    obtain ⟨ρ1, h1, h2⟩ := hs j x ρ hx hp
    refine ⟨ρ1, h1, T.all_mono (fun o z => ?_) (fun _ _ z => z) h2⟩
    rw [Nat.zero_add]
    cases o <;> exact z
  · rw [Nat.zero_add] at hp
    exact hd ρ hp)
theorem sz_ret {b : Bool} (h : a ρ = .ok (.bool b)) (hb : b = true) : (sRet a ρ).all IsT X := by
  rw [sRet_e, h, ofO_ok]
  exact isT_rt hb
end
theorem sr_ret {t : MS} {a : MP} {ρ : MEnv} {X : Str → MEnv → Prop} {b : Bool} (h : a ρ = .ok (.bool b)) (hb : b = true) : (sRet a ρ).all (fun o => (seqK t o).all IsT X) X := by
  rw [sRet_e, h, ofO_ok]
  exact isT_rt hb
/-! loops that change some slots only -/
theorem set_at {ρ : MEnv} {i : Nat} : ρ.set i (at_ ρ i) = ρ := by
  apply List.ext_getElem?
  intro j
  by_cases h : i = j
  · subst h
    by_cases hl : i < ρ.length
    · rw [List.getElem?_set_self hl]
      unfold at_
      rw [List.getElem?_eq_getElem hl] <;> rfl
    · rw [List.getElem?_eq_none (by rw [List.length_set]; omega), List.getElem?_eq_none (by omega)]
  · rw [List.getElem?_set_ne h]
def setsE (ρ : MEnv) : List (Nat × Cell) → MEnv
  | [] => ρ
  | (i, c) :: r => (setsE ρ r).set i c
theorem setsE_self {ρ : MEnv} : ∀ l : List Nat, setsE ρ (l.map fun i => (i, at_ ρ i)) = ρ
  | [] => rfl
  | i :: r => by
    show (setsE ρ (r.map fun i => (i, at_ ρ i))).set i (at_ ρ i) = ρ
    rw [setsE_self r, set_at]
section
variable {t : MS} {ρ : MEnv} {Q : Out → Prop} {X : Str → MEnv → Prop} {src : MI} {g : Tg} {b : MS} {α : Type} (l : List α) (dt : α → Dt)
/-- .. with a fact of the turn -/
theorem st_for1 (i : Nat) (Pv : Nat → Cell → Prop) (h : src ρ = .ok (l.map dt)) (h0 : Pv 0 (at_ ρ i))
    (hs : ∀ (j : Nat) (x : α) (c : Cell), l[j]? = some x → Pv j c → ∃ ρ1, g.put (dt x) (ρ.set i c) = .ok ρ1 ∧ (b ρ1).all (fun o => match o with | .nx ρ' => ∃ d, ρ' = ρ.set i d ∧ Pv (j + 1) d | .rt r ρ' => Q (.rt r ρ') | _ => False) X)
    (hd : ∀ c, Pv l.length c → (t (ρ.set i c)).all Q X) : (sSeq (sFor src g b) t ρ).all Q X :=
  st_for l dt (fun j ρ' => ∃ d, ρ' = ρ.set i d ∧ Pv j d) h ⟨_, set_at.symm, h0⟩ (fun j x ρ' hx ⟨d, e, hp⟩ => by
    subst e
    obtain ⟨ρ1, h1, h2⟩ := hs j x d hx hp
    refine ⟨ρ1, h1, T.all_mono (fun o z => ?_) (fun _ _ z => z) h2⟩
    cases o with
    | nx ρ' => exact z
    | rt r ρ' => exact z
    | _ => exact z.elim) fun ρ' ⟨d, e, hp⟩ => by
    subst e
    exact hd d hp
theorem st_for2 (i i' : Nat) (Pv : Nat → Cell → Cell → Prop) (h : src ρ = .ok (l.map dt)) (h0 : Pv 0 (at_ ρ i) (at_ ρ i'))
    (hs : ∀ (j : Nat) (x : α) (c c' : Cell), l[j]? = some x → Pv j c c' → ∃ ρ1, g.put (dt x) ((ρ.set i' c').set i c) = .ok ρ1 ∧ (b ρ1).all (fun o => match o with | .nx ρ' => ∃ d d', ρ' = (ρ.set i' d').set i d ∧ Pv (j + 1) d d' | .rt r ρ' => Q (.rt r ρ') | _ => False) X)
    (hd : ∀ c c', Pv l.length c c' → (t ((ρ.set i' c').set i c)).all Q X) : (sSeq (sFor src g b) t ρ).all Q X :=
  st_for l dt (fun j ρ' => ∃ d d', ρ' = (ρ.set i' d').set i d ∧ Pv j d d') h ⟨_, _, (by rw [set_at, set_at]), h0⟩ (fun j x ρ' hx ⟨d, d', e, hp⟩ => by
    subst e
    obtain ⟨ρ1, h1, h2⟩ := hs j x d d' hx hp
    refine ⟨ρ1, h1, T.all_mono (fun o z => ?_) (fun _ _ z => z) h2⟩
    cases o with
    | nx ρ' => exact z
    | rt r ρ' => exact z
    | _ => exact z.elim) fun ρ' ⟨d, d', e, hp⟩ => by
    subst e
    exact hd d d' hp
/-- any slots, told by a list -/
theorem st_forN (is : List Nat) (Pv : Nat → List Cell → Prop) (h : src ρ = .ok (l.map dt)) (h0 : Pv 0 (is.map (at_ ρ)))
    (hs : ∀ (j : Nat) (x : α) (cs : List Cell), cs.length = is.length → l[j]? = some x → Pv j cs → ∃ ρ1, g.put (dt x) (setsE ρ (is.zip cs)) = .ok ρ1 ∧ (b ρ1).all (fun o => match o with | .nx ρ' => ∃ ds : List Cell, ds.length = is.length ∧ ρ' = setsE ρ (is.zip ds) ∧ Pv (j + 1) ds | .rt r ρ' => Q (.rt r ρ') | _ => False) X)
    (hd : ∀ cs : List Cell, cs.length = is.length → Pv l.length cs → (t (setsE ρ (is.zip cs))).all Q X) : (sSeq (sFor src g b) t ρ).all Q X :=
  st_for l dt (fun j ρ' => ∃ ds : List Cell, ds.length = is.length ∧ ρ' = setsE ρ (is.zip ds) ∧ Pv j ds) h ⟨is.map (at_ ρ), List.length_map _, by
      have e : is.zip (is.map (at_ ρ)) = is.map fun i => (i, at_ ρ i) := by
        have := List.zip_map' (f := id) (g := at_ ρ) (l := is)
        rw [List.map_id] at this
        exact this
      rw [e, setsE_self], h0⟩ (fun j x ρ' hx ⟨ds, hl, e, hp⟩ => by
    subst e
    obtain ⟨ρ1, h1, h2⟩ := hs j x ds hl hx hp
    refine ⟨ρ1, h1, T.all_mono (fun o z => ?_) (fun _ _ z => z) h2⟩
    cases o with
    | nx ρ' => exact z
    | rt r ρ' => exact z
    | _ => exact z.elim) fun ρ' ⟨ds, hl, e, hp⟩ => by
    subst e
    exact hd ds hl hp
end
def cutL {α : Type} (xs : List α) (lo hi : Option Int) : List α := (xs.drop (HT.sIx xs.length 0 lo)).take (HT.sIx xs.length xs.length hi - HT.sIx xs.length 0 lo)
theorem cutD_map {α : Type} {f : α → Dt} {xs : List α} {lo hi : Option Int} : cutD (xs.map f) lo hi = (cutL xs lo hi).map f := by
  unfold cutD cutL
  rw [List.length_map, List.map_take, List.map_drop]
theorem cutL_to {α : Type} {xs : List α} (n : Nat) : cutL xs none (some (n : Int)) = xs.take n := by
  unfold cutL
  rw [HT.sIx_none, HT.sIx_nat, List.drop_zero, Nat.sub_zero]
  by_cases h : n ≤ xs.length
  · rw [Nat.min_eq_left h]
  · rw [Nat.min_eq_right (by omega), List.take_of_length_le (Nat.le_refl _), List.take_of_length_le (by omega)]
theorem cutL_from {α : Type} {xs : List α} (n : Nat) : cutL xs (some (n : Int)) none = xs.drop n := by
  unfold cutL
  rw [HT.sIx_none, HT.sIx_nat]
  by_cases h : n ≤ xs.length
  · rw [Nat.min_eq_left h, List.take_of_length_le (by rw [List.length_drop]; exact Nat.le_refl _)]
  · rw [Nat.min_eq_right (by omega), List.drop_eq_nil_of_le (by omega), List.drop_eq_nil_of_le (by omega), List.take_nil]

/-! ### fractions -/
def lowP (t b : Int) : Int := t % b / gcI (t % b) b
def lowQ (t b : Int) : Int := b / gcI (t % b) b
abbrev low (t b : Int) : Dt := .tuple [.int (lowP t b), .int (lowQ t b)]
/-- above and below, over their common part -/
theorem low_parts {t b : Int} (h : 0 < b) : 0 < lowQ t b ∧ lowQ t b ≤ b ∧ ∃ m, lowP t b * b = t * lowQ t b + m * (b * lowQ t b) := by
  have g0 : 0 < gcI (t % b) b := by
    rw [gcI_comm]
    exact gcI_pos h
  have e1 : gcI (t % b) b * lowP t b = t % b := Int.mul_ediv_cancel' (Int.gcd_dvd_left ..)
  have e2 : gcI (t % b) b * lowQ t b = b := Int.mul_ediv_cancel' (Int.gcd_dvd_right ..)
  have q0 : 0 < lowQ t b := Int.pos_of_mul_pos_right (by rw [e2]; exact h) g0
  refine ⟨q0, Int.ediv_le_self _ (by omega), -(t / b), ?_⟩
  have e3 := Int.emod_add_mul_ediv t b
  generalize gcI (t % b) b = g at *
  generalize lowP t b = p at *
  generalize lowQ t b = q at *
  generalize t / b = z at *
  have : p * b = (t % b) * q := by rw [← e1, ← e2]; grind
  rw [this]
  have : t % b = t - b * z := by omega
  rw [this]
  grind
theorem low_scale {t b c : Int} (hc : 0 < c) : low (t * c) (b * c) = low t b := by
  have e1 : (t * c) % (b * c) = t % b * c := by rw [Int.mul_comm t c, Int.mul_comm b c, Int.mul_emod_mul_of_pos _ _ hc, Int.mul_comm]
  unfold low lowP lowQ
  rw [e1, gcI_mul hc, Int.mul_ediv_mul_of_pos_left _ _ hc, Int.mul_ediv_mul_of_pos_left _ _ hc]
theorem low_add {t b m : Int} : low (t + b * m) b = low t b := by
  unfold low lowP lowQ
  rw [Int.add_mul_emod_self_left]
theorem low_eq {t b t' b' m : Int} (h : 0 < b) (h' : 0 < b') (e : t * b' = t' * b + m * (b * b')) : low t b = low t' b' := by
  rw [← low_scale (t := t) (b := b) h', e, show t' * b + m * (b * b') = t' * b + (b * b') * m by rw [Int.mul_comm m], low_add, Int.mul_comm b b', low_scale h]
def markX (N w : Int) (s : Str) (st k : Int) : Int := if s = sIn then (st + k) * w - k * N else (st + k) * w * 2 + N * w + 2 * k * N
def markW (N w : Int) (s : Str) : Int := if s = sIn then N * w else 2 * (N * w)
abbrev markI (N w : Int) (s : Str) (st k : Int) : Dt := low (markX N w s st k) (markW N w s)

/-! ### tips -/
def tipsL (N w st : Int) (n : Nat) : List Int := (List.range n).map fun (k : Nat) => (st + k * w) % N
theorem tipsL_len {N w st : Int} {n : Nat} : (tipsL N w st n).length = n := by
  unfold tipsL
  rw [List.length_map, List.length_range]
theorem tipsL_dt {N w st : Int} {n : Nat} : (tipsL N w st n).map PyData.int = (List.range n).map fun (k : Nat) => PyData.int ((st + k * w) % N) := by
  unfold tipsL
  rw [List.map_map] <;> rfl
theorem tipsL_mem {N w st t : Int} {n : Nat} : t ∈ tipsL N w st n ↔ ∃ k : Nat, k < n ∧ (st + k * w) % N = t := by
  unfold tipsL
  rw [List.mem_map]
  exact ⟨fun ⟨k, h, e⟩ => ⟨k, List.mem_range.mp h, e⟩, fun ⟨k, h, e⟩ => ⟨k, List.mem_range.mpr h, e⟩⟩
/-- the tips of the closed curve -/
abbrev tipsC (N w st : Int) : List Int := tipsL N w st (petI N w).toNat

/-! ### meetings -/
/-- the first step at which the teeth meet -/
def meetD (N w st t own : Int) (d : Dt) : Prop := (¬ gcI N w ∣ (t - st - own) ∧ d = .none) ∨ ∃ j : Nat, N ∣ w * j - (t - st - own) ∧ (∀ i : Nat, i < j → ¬ N ∣ w * i - (t - st - own)) ∧ d = .int (own + w * j)
/-- how often up to a step -/
def timesI (L : Int) (d : Dt) (step : Int) : Int := match d with
  | .int m => if m > step then 0 else (step - m) / L + 1
  | _ => 0
theorem times_int {L m k : Int} : timesI L (.int m) k = if m > k then 0 else (k - m) / L + 1 := rfl
theorem times_none {L k : Int} : timesI L .none k = 0 := rfl
theorem apart_iff {N w x own : Int} {i : Nat} : (own + w * i - own - x % N) % N = 0 ↔ N ∣ w * i - x := by
  have e : own + w * i - own - x % N = (w * i - x) + N * (x / N) := by
    have := Int.emod_add_mul_ediv x N
    omega
  rw [e, Int.add_mul_emod_self_left]
  exact ⟨Int.dvd_of_emod_eq_zero, Int.emod_eq_zero_of_dvd⟩
theorem gcd_dvd_of {N w x : Int} {j : Nat} (h : N ∣ w * j - x) : gcI N w ∣ x := by
  have h1 : gcI N w ∣ w * j := Int.dvd_trans (Int.gcd_dvd_right ..) (Int.dvd_mul_right ..)
  have h2 : gcI N w ∣ w * j - x := Int.dvd_trans (Int.gcd_dvd_left ..) h
  have h3 := Int.dvd_sub h1 h2
  have e : w * (j : Int) - (w * j - x) = x := by omega
  rwa [e] at h3
/-! ### meetings, plainly -/
theorem least {P : Nat → Prop} : ∀ n, P n → ∃ m, P m ∧ ∀ i, i < m → ¬ P i := by
  intro n
  induction n using Nat.strongRecOn with
  | ind n ih =>
    intro h
    by_cases q : ∃ i, i < n ∧ P i
    · obtain ⟨i, hi, hp⟩ := q
      exact ih i hi hp
    · exact ⟨n, h, fun i hi hp => q ⟨i, hi, hp⟩⟩
/-- in the sequence of the remainders -/
theorem count_res (L r : Nat) (hr : r < L) : ∀ n, (List.range n).countP (fun m => decide (m % L = r)) = if n ≤ r then 0 else (n - 1 - r) / L + 1 := by
  have low : ∀ n, n ≤ r → (List.range n).countP (fun m => decide (m % L = r)) = 0 := fun n hn => List.countP_eq_zero.mpr fun m hm => by
    have := List.mem_range.mp hm
    simp only [decide_eq_true_eq]
    rw [Nat.mod_eq_of_lt (by omega)]
    omega
  have high : ∀ k, (List.range (r + 1 + k)).countP (fun m => decide (m % L = r)) = k / L + 1 := fun k => by
    induction k with
    | zero =>
      rw [Nat.add_zero, List.range_succ, List.countP_append, low r (Nat.le_refl _), Nat.zero_div]
      simp [List.countP_cons, Nat.mod_eq_of_lt hr]
    | succ k ih =>
      rw [show r + 1 + (k + 1) = (r + 1 + k) + 1 by omega, List.range_succ, List.countP_append, ih, Nat.succ_div]
      by_cases h : L ∣ k + 1
      · obtain ⟨c, hc⟩ := h
        have e : (r + 1 + k) % L = r := by
          rw [show r + 1 + k = r + L * c by omega, Nat.add_mul_mod_self_left, Nat.mod_eq_of_lt hr]
        rw [if_pos ⟨c, hc⟩]
        simp [List.countP_cons, e]
      · have e : (r + 1 + k) % L ≠ r := fun z => h (by
          have := Nat.mod_add_div (r + 1 + k) L
          rw [z] at this
          exact ⟨(r + 1 + k) / L, by omega⟩)
        rw [if_neg h]
        simp [List.countP_cons, e]
  intro n
  split
  · exact low n (by assumption)
  · have := high (n - 1 - r)
    rw [show r + 1 + (n - 1 - r) = n by omega] at this
    exact this
section
variable {N w st t own : Int} {s : Str} {d : Dt}
/-- the teeth meet at a step -/
def Meet (N w st t own : Int) (m : Nat) : Prop := (m : Int) % w = own ∧ (st + m) % N = t
instance : DecidablePred (Meet N w st t own) := fun m => inferInstanceAs (Decidable (_ ∧ _))
theorem mod_is {a b n : Int} (h0 : 0 ≤ b) (h1 : b < n) : a % n = b ↔ n ∣ a - b := by
  have e : b % n = b := Int.emod_eq_of_lt h0 h1
  constructor
  · intro h
    exact Int.dvd_of_emod_eq_zero (Int.emod_eq_emod_iff_emod_sub_eq_zero.mp (h.trans e.symm))
  · intro h
    exact (Int.emod_eq_emod_iff_emod_sub_eq_zero.mpr (Int.emod_eq_zero_of_dvd h)).trans e
theorem len_dvd {x : Int} (h1 : 0 < N) (h2 : 0 < w) : lenI N w ∣ x ↔ N ∣ x ∧ w ∣ x := by
  rw [← rollL_len h1 h2]
  obtain ⟨n, rfl⟩ := Int.eq_ofNat_of_zero_le (Int.le_of_lt h1)
  obtain ⟨m, rfl⟩ := Int.eq_ofNat_of_zero_le (Int.le_of_lt h2)
  show ((Nat.lcm n m : Nat) : Int) ∣ x ↔ (n : Int) ∣ x ∧ (m : Int) ∣ x
  rw [Int.ofNat_dvd_left, Int.ofNat_dvd_left, Int.ofNat_dvd_left]
  exact Nat.lcm_dvd_iff
theorem meet_some (g : Gok N w s) (h : meetD N w st t own d) (s0 : 0 ≤ st) (s1 : st < N) (t0 : 0 ≤ t) (t1 : t < N) (o0 : 0 ≤ own) (o1 : own < w) :
    (d = .none ∧ ¬ gcI N w ∣ t - st - own ∧ ∀ m, ¬ Meet N w st t own m) ∨ ∃ m : Nat, d = .int m ∧ (m : Int) < lenI N w ∧ Meet N w st t own m ∧ ∀ m' : Nat, Meet N w st t own m' ↔ m' % (lenI N w).toNat = m := by
  have n3 := g.n3
  have w2 := g.w2
  have hN : 0 < N := by omega
  have hW : 0 < w := by omega
  have q := gnum hN hW
  have lb := lenI_bd g
  rcases h with ⟨h, rfl⟩ | ⟨j, hj, hmin, rfl⟩
  · refine .inl ⟨rfl, h, fun m ⟨h1, h2⟩ => h ?_⟩
    have e1 := (mod_is o0 o1).mp h1
    have e2 := (mod_is t0 t1).mp h2
    have f1 := Int.dvd_trans (show gcI N w ∣ w from Int.gcd_dvd_right ..) e1
    have f2 := Int.dvd_trans (show gcI N w ∣ N from Int.gcd_dvd_left ..) e2
    have f3 := Int.dvd_sub f1 f2
    have e : (m : Int) - own - (st + m - t) = t - st - own := by omega
    rwa [e] at f3
  · have hja : (j : Int) < petI N w := by
      by_cases c : (j : Int) < petI N w
      · exact c
      · exfalso
        have a0 := q.a0
        have ej : ((j - (petI N w).toNat : Nat) : Int) = j - petI N w := by omega
        refine hmin (j - (petI N w).toNat) (by omega) ?_
        rw [ej]
        have e : w * ((j : Int) - petI N w) - (t - st - own) = (w * j - (t - st - own)) - N * rndI N w := by
          have l := q.l
          have l2 := q.l2
          generalize lenI N w = L at *
          grind
        rw [e]
        exact Int.dvd_sub hj (Int.dvd_mul_right ..)
    have m0 : 0 ≤ own + w * j := Int.add_nonneg o0 (Int.mul_nonneg (by omega) (by omega))
    have ml : own + w * j < lenI N w := by
      have : w * (j : Int) ≤ w * (petI N w - 1) := Int.mul_le_mul_of_nonneg_left (by omega) (by omega)
      have l := q.l
      generalize lenI N w = L at *
      have e : w * (petI N w - 1) = L - w := by grind
      omega
    have em : (((own + w * j).toNat : Nat) : Int) = own + w * j := by omega
    have h1 : Meet N w st t own (own + w * j).toNat := by
      refine ⟨?_, ?_⟩
      · rw [em, Int.add_mul_emod_self_left, Int.emod_eq_of_lt o0 o1]
      · rw [em, mod_is t0 t1]
        have e : st + (own + w * j) - t = w * j - (t - st - own) := by omega
        rwa [e]
    refine .inr ⟨(own + w * j).toNat, by rw [em], by omega, h1, fun m' => ?_⟩
    have hL : (((lenI N w).toNat : Nat) : Int) = lenI N w := by omega
    have e3 : m' % (lenI N w).toNat = (own + w * j).toNat ↔ lenI N w ∣ (m' : Int) - (own + w * j) := by
      rw [← mod_is m0 ml]
      constructor
      · intro z
        have := congrArg (fun n : Nat => (n : Int)) z
        simp only [Int.natCast_emod, hL, em] at this
        exact this
      · intro z
        have : ((m' % (lenI N w).toNat : Nat) : Int) = (((own + w * j).toNat : Nat) : Int) := by rw [Int.natCast_emod, hL, em]; exact z
        exact Int.ofNat_inj.mp this
    rw [e3, len_dvd hN hW]
    obtain ⟨z1, z2⟩ := h1
    rw [em] at z1 z2
    have y1 := (mod_is o0 o1).mp z1
    have y2 := (mod_is t0 t1).mp z2
    unfold Meet
    rw [mod_is o0 o1, mod_is t0 t1]
    constructor
    · rintro ⟨x1, x2⟩
      have a := Int.dvd_sub x2 y2
      have b := Int.dvd_sub x1 y1
      rw [show st + (m' : Int) - t - (st + (own + w * j) - t) = m' - (own + w * j) by omega] at a
      rw [show (m' : Int) - own - (own + w * j - own) = m' - (own + w * j) by omega] at b
      exact ⟨a, b⟩
    · rintro ⟨a, b⟩
      have x2 := Int.dvd_add a y2
      have x1 := Int.dvd_add b y1
      rw [show (m' : Int) - (own + w * j) + (st + (own + w * j) - t) = st + m' - t by omega] at x2
      rw [show (m' : Int) - (own + w * j) + (own + w * j - own) = m' - own by omega] at x1
      exact ⟨x1, x2⟩
theorem bezout (m n : Nat) : ∃ u v : Int, ((Nat.gcd m n : Nat) : Int) = m * u + n * v := by
  induction m, n using Nat.gcd.induction with
  | H0 n => exact ⟨0, 1, by simp⟩
  | H1 m n h ih =>
    obtain ⟨u, v, e⟩ := ih
    refine ⟨v - (n / m : Nat) * u, u, ?_⟩
    rw [Nat.gcd_rec, e]
    have d := Nat.mod_add_div n m
    have d' : ((n % m : Nat) : Int) = n - m * (n / m : Nat) := by
      have : ((n % m + m * (n / m) : Nat) : Int) = n := by rw [d]
      rw [Int.natCast_add, Int.natCast_mul] at this
      omega
    rw [d']
    generalize ((n / m : Nat) : Int) = z
    grind
/-- there is a first meeting to be told -/
theorem meet_ex (h1 : 0 < N) (h2 : 0 < w) : ∃ d, meetD N w st t own d := by
  by_cases h : gcI N w ∣ t - st - own
  · obtain ⟨c, hc⟩ := h
    obtain ⟨u, v, huv⟩ := bezout N.natAbs w.natAbs
    have hg : gcI N w = N * u + w * v := by
      rw [show ((N.natAbs : Nat) : Int) = N by omega, show ((w.natAbs : Nat) : Int) = w by omega] at huv
      exact huv
    -- j = v c + N k
    have hk : 0 ≤ (v * c) % N := Int.emod_nonneg _ (by omega)
    obtain ⟨j, hj⟩ := Int.eq_ofNat_of_zero_le hk
    have : N ∣ w * (j : Nat) - (t - st - own) := by
      rw [hc, hg, ← hj]
      have e := Int.emod_add_mul_ediv (v * c) N
      refine ⟨-(u * c) - w * (v * c / N), ?_⟩
      have e2 : (v * c) % N = v * c - N * (v * c / N) := by omega
      rw [e2]
      generalize v * c / N = z
      grind
    obtain ⟨m, hm, hmin⟩ := least (P := fun j : Nat => N ∣ w * j - (t - st - own)) j this
    exact ⟨_, .inr ⟨m, hm, hmin, rfl⟩⟩
  · exact ⟨_, .inl ⟨h, rfl⟩⟩
end
/-! ### meetings counted -/
section
variable {N w st t own k : Int} {s : Str} {d : Dt}
theorem times_count (g : Gok N w s) (h : meetD N w st t own d) (s0 : 0 ≤ st) (s1 : st < N) (t0 : 0 ≤ t) (t1 : t < N) (o0 : 0 ≤ own) (o1 : own < w) (k0 : 0 ≤ k) :
    timesI (lenI N w) d k = ((List.range (k + 1).toNat).countP fun m => decide (Meet N w st t own m) : Nat) := by
  have lb := lenI_bd g
  rcases meet_some g h s0 s1 t0 t1 o0 o1 with ⟨rfl, _, h2⟩ | ⟨m, rfl, ml, h1, h2⟩
  · rw [times_none, List.countP_eq_zero.mpr fun m _ => by rw [decide_eq_true_eq]; exact h2 m] <;> rfl
  · rw [times_int]
    have e : ((List.range (k + 1).toNat).countP fun m => decide (Meet N w st t own m)) = (List.range (k + 1).toNat).countP fun m' => decide (m' % (lenI N w).toNat = m) := by
      congr 1
      funext m'
      exact decide_eq_decide.mpr (h2 m')
    rw [e, count_res _ _ (by omega)]
    by_cases c : (m : Int) > k
    · rw [if_pos c, if_pos (by omega)] <;> rfl
    · rw [if_neg c, if_neg (by omega)]
      have e1 : (((k + 1).toNat - 1 - m : Nat) : Int) = k - m := by omega
      have e2 : (((lenI N w).toNat : Nat) : Int) = lenI N w := by omega
      rw [Int.natCast_add, Int.natCast_ediv, e1, e2] <;> rfl
theorem sum_add {l : List Nat} {a b : Nat → Nat} : (l.map fun o => a o + b o).sum = (l.map a).sum + (l.map b).sum := by
  induction l with
  | nil => rfl
  | cons x r ih =>
    rw [List.map_cons, List.map_cons, List.map_cons, List.sum_cons, List.sum_cons, List.sum_cons, ih]
    omega
theorem sum_one {c : Nat} {p : Bool} : ∀ W, ((List.range W).map fun o => if c = o ∧ p = true then 1 else 0).sum = if c < W ∧ p = true then 1 else 0
  | 0 => by simp
  | W + 1 => by
    rw [List.range_succ, List.map_append, List.sum_append, sum_one W]
    simp only [List.map_cons, List.map_nil, List.sum_cons, List.sum_nil]
    cases p with
    | false => simp
    | true =>
      simp only [and_true]
      by_cases h : c < W
      · rw [if_pos h, if_neg (by omega), if_pos (by omega)] <;> rfl
      · by_cases h2 : c = W
        · rw [if_neg h, if_pos h2, if_pos (by omega)] <;> rfl
        · rw [if_neg h, if_neg h2, if_neg (by omega)] <;> rfl
theorem sum_countP {W : Nat} {f : Nat → Nat} {P : Nat → Bool} (hf : ∀ m, f m < W) : ∀ n, ((List.range W).map fun o => (List.range n).countP fun m => decide (f m = o) && P m).sum = (List.range n).countP P
  | 0 => by
    simp only [List.range_zero, List.countP_nil]
    induction W with
    | zero => rfl
    | succ W _ =>
      have : ∀ l : List Nat, (l.map fun _ => 0).sum = 0 := fun l => by
        induction l with
        | nil => rfl
        | cons x r ih => rw [List.map_cons, List.sum_cons, ih]
      exact this _
  | n + 1 => by
    have ih := sum_countP (P := P) hf n
    have e : (fun o => (List.range (n + 1)).countP fun m => decide (f m = o) && P m) = fun o => ((List.range n).countP fun m => decide (f m = o) && P m) + if f n = o ∧ P n = true then 1 else 0 := by
      funext o
      rw [List.range_succ, List.countP_append]
      simp only [List.countP_cons, List.countP_nil, Bool.and_eq_true, decide_eq_true_eq]
      omega
    rw [e, sum_add, ih, sum_one, List.range_succ, List.countP_append]
    simp only [List.countP_cons, List.countP_nil, hf n, true_and]
    omega
theorem sum_cast {f : Nat → Nat} : ∀ l : List Nat, (l.map fun o => ((f o : Nat) : Int)).sum = ((l.map f).sum : Nat)
  | [] => rfl
  | x :: r => by
    rw [List.map_cons, List.map_cons, List.sum_cons, List.sum_cons, sum_cast r, Int.natCast_add]
/-- over all teeth of the wheel -/
theorem times_own (g : Gok N w s) (D : Nat → Dt) (hD : ∀ o : Nat, (o : Int) < w → meetD N w st t o (D o)) (s0 : 0 ≤ st) (s1 : st < N) (t0 : 0 ≤ t) (t1 : t < N) (k0 : 0 ≤ k) :
    ((List.range w.toNat).map fun o => timesI (lenI N w) (D o) k).sum = if k ≥ (t - st) % N then (k - (t - st) % N) / N + 1 else 0 := by
  have n3 := g.n3
  have w2 := g.w2
  have e1 : ((List.range w.toNat).map fun o => timesI (lenI N w) (D o) k) = (List.range w.toNat).map fun o => ((((List.range (k + 1).toNat).countP fun (m : Nat) => decide (m % w.toNat = o) && decide ((st + m) % N = t)) : Nat) : Int) := by
    refine List.map_congr_left fun o ho => ?_
    have ho' := List.mem_range.mp ho
    rw [times_count g (hD o (by omega)) s0 s1 t0 t1 (by omega) (by omega) k0]
    congr 2
    funext m
    rw [← Bool.decide_and]
    refine decide_eq_decide.mpr ?_
    unfold Meet
    have : ((m : Int) % w = o) ↔ m % w.toNat = o := by
      have e : ((m % w.toNat : Nat) : Int) = (m : Int) % w := by rw [Int.natCast_emod, show ((w.toNat : Nat) : Int) = w by omega]
      rw [← e]
      exact Int.ofNat_inj
    rw [this]
  rw [e1, sum_cast, sum_countP (f := fun m => m % w.toNat) (fun m => Nat.mod_lt _ (by omega))]
  have f0 := Int.emod_nonneg (t - st) (show N ≠ 0 by omega)
  have f1 := Int.emod_lt_of_pos (t - st) (show 0 < N by omega)
  have e2 : ((List.range (k + 1).toNat).countP fun (m : Nat) => decide ((st + (m : Int)) % N = t)) = (List.range (k + 1).toNat).countP fun m => decide (m % N.toNat = ((t - st) % N).toNat) := by
    congr 1
    funext m
    refine decide_eq_decide.mpr ?_
    have e : ((m % N.toNat : Nat) : Int) = (m : Int) % N := by rw [Int.natCast_emod, show ((N.toNat : Nat) : Int) = N by omega]
    have e3 : (m % N.toNat = ((t - st) % N).toNat) ↔ (m : Int) % N = (t - st) % N := by
      rw [← e]
      omega
    rw [e3, mod_is t0 t1, Int.emod_eq_emod_iff_emod_sub_eq_zero, show st + (m : Int) - t = m - (t - st) by omega]
    exact ⟨Int.emod_eq_zero_of_dvd, Int.dvd_of_emod_eq_zero⟩
  rw [e2, count_res _ _ (by omega)]
  by_cases c : k ≥ (t - st) % N
  · rw [if_pos c, if_neg (by omega)]
    have e3 : (((k + 1).toNat - 1 - ((t - st) % N).toNat : Nat) : Int) = k - (t - st) % N := by omega
    rw [Int.natCast_add, Int.natCast_ediv, e3, show ((N.toNat : Nat) : Int) = N by omega] <;> rfl
  · rw [if_neg c, if_pos (by omega)] <;> rfl
/-- over all teeth of the ring -/
theorem times_ring (g : Gok N w s) (D : Nat → Dt) (hD : ∀ o : Nat, (o : Int) < N → meetD N w st o own (D o)) (s0 : 0 ≤ st) (s1 : st < N) (o0 : 0 ≤ own) (o1 : own < w) (k0 : 0 ≤ k) :
    ((List.range N.toNat).map fun o => timesI (lenI N w) (D o) k).sum = if k ≥ own then (k - own) / w + 1 else 0 := by
  have n3 := g.n3
  have w2 := g.w2
  have e1 : ((List.range N.toNat).map fun o => timesI (lenI N w) (D o) k) = (List.range N.toNat).map fun o => ((((List.range (k + 1).toNat).countP fun (m : Nat) => decide (((st + (m : Int)) % N).toNat = o) && decide ((m : Int) % w = own)) : Nat) : Int) := by
    refine List.map_congr_left fun o ho => ?_
    have ho' := List.mem_range.mp ho
    rw [times_count g (hD o (by omega)) s0 s1 (by omega) (by omega) o0 o1 k0]
    congr 2
    funext m
    rw [← Bool.decide_and]
    refine decide_eq_decide.mpr ?_
    unfold Meet
    have z := Int.emod_nonneg (st + m) (show N ≠ 0 by omega)
    rw [and_comm]
    refine and_congr ?_ Iff.rfl
    omega
  rw [e1, sum_cast, sum_countP (f := fun (m : Nat) => ((st + (m : Int)) % N).toNat) (fun m => by
    have z := Int.emod_nonneg (st + m) (show N ≠ 0 by omega)
    have z2 := Int.emod_lt_of_pos (st + m) (show 0 < N by omega)
    omega)]
  have e2 : ((List.range (k + 1).toNat).countP fun (m : Nat) => decide ((m : Int) % w = own)) = (List.range (k + 1).toNat).countP fun m => decide (m % w.toNat = own.toNat) := by
    congr 1
    funext m
    refine decide_eq_decide.mpr ?_
    have e : ((m % w.toNat : Nat) : Int) = (m : Int) % w := by rw [Int.natCast_emod, show ((w.toNat : Nat) : Int) = w by omega]
    rw [← e]
    omega
  rw [e2, count_res _ _ (by omega)]
  by_cases c : k ≥ own
  · rw [if_pos c, if_neg (by omega)]
    have e3 : (((k + 1).toNat - 1 - own.toNat : Nat) : Int) = k - own := by omega
    rw [Int.natCast_add, Int.natCast_ediv, e3, show ((w.toNat : Nat) : Int) = w by omega] <;> rfl
  · rw [if_neg c, if_pos (by omega)] <;> rfl
end
/-! ### one first meeting to name -/
open Classical in
noncomputable def meetC (N w st t own : Int) : Dt := if h : ∃ d, meetD N w st t own d then choose h else .none
theorem meetC_ok {N w : Int} {s : Str} (g : Gok N w s) (st t own : Int) : meetD N w st t own (meetC N w st t own) := by
  have h := meet_ex (st := st) (t := t) (own := own) (show 0 < N by have := g.n3; omega) (show 0 < w by have := g.w2; omega)
  unfold meetC
  rw [dif_pos h]
  exact Classical.choose_spec h
/-- the teeth of the wheel that meet a tooth -/
def matesL (N w st t : Int) : List Int := ((List.range w.toNat).filter fun (i : Nat) => decide ((t - st - i) % gcI N w = 0)).map fun (i : Nat) => (i : Int)
theorem mates_dt {N w st t : Int} : (matesL N w st t).map PyData.int = kept w.toNat (fun i => decide ((t - st - i) % gcI N w = 0)) fun i => .int (i : Int) := by
  unfold matesL kept
  rw [List.map_map] <;> rfl
theorem mates_mem {N w st t o : Int} : o ∈ matesL N w st t ↔ 0 ≤ o ∧ o < w ∧ gcI N w ∣ t - st - o := by
  unfold matesL
  rw [List.mem_map]
  constructor
  · rintro ⟨i, hi, rfl⟩
    obtain ⟨h1, h2⟩ := List.mem_filter.mp hi
    have := List.mem_range.mp h1
    exact ⟨by omega, by omega, Int.dvd_of_emod_eq_zero (of_decide_eq_true h2)⟩
  · rintro ⟨h0, h1, h2⟩
    refine ⟨o.toNat, List.mem_filter.mpr ⟨List.mem_range.mpr (by omega), ?_⟩, by omega⟩
    rw [show ((o.toNat : Nat) : Int) = o by omega]
    exact decide_eq_true (Int.emod_eq_zero_of_dvd h2)
theorem mates_len {N w st t : Int} (h1 : 0 < N) (h2 : 0 < w) : ((matesL N w st t).length : Int) = rndI N w := by
  have q := gnum h1 h2
  have g0 := q.g0
  have b0 := q.b0
  unfold matesL
  rw [List.length_map, ← List.countP_eq_length_filter]
  have r0 := Int.emod_nonneg (t - st) (show gcI N w ≠ 0 by omega)
  have r1 := Int.emod_lt_of_pos (t - st) g0
  have e : ((List.range w.toNat).countP fun (i : Nat) => decide ((t - st - i) % gcI N w = 0)) = (List.range w.toNat).countP fun i => decide (i % (gcI N w).toNat = ((t - st) % gcI N w).toNat) := by
    congr 1
    funext i
    refine decide_eq_decide.mpr ?_
    have e : ((i % (gcI N w).toNat : Nat) : Int) = (i : Int) % gcI N w := by rw [Int.natCast_emod, show (((gcI N w).toNat : Nat) : Int) = gcI N w by omega]
    have e3 : (i % (gcI N w).toNat = ((t - st) % gcI N w).toNat) ↔ (t - st) % gcI N w = (i : Int) % gcI N w := by
      rw [← e]
      omega
    rw [e3, Int.emod_eq_emod_iff_emod_sub_eq_zero]
  rw [e, count_res _ _ (by omega)]
  have ew : w.toNat = (rndI N w).toNat * (gcI N w).toNat := by
    refine Int.ofNat_inj.mp ?_
    rw [Int.natCast_mul, show ((w.toNat : Nat) : Int) = w by omega, show (((rndI N w).toNat : Nat) : Int) = rndI N w by omega, show (((gcI N w).toNat : Nat) : Int) = gcI N w by omega, Int.mul_comm]
    exact q.ew
  obtain ⟨b, hb⟩ : ∃ b, (rndI N w).toNat = b + 1 := ⟨(rndI N w).toNat - 1, by omega⟩
  rw [ew, hb, Nat.succ_mul]
  generalize hG : (gcI N w).toNat = G at *
  generalize hR : ((t - st) % gcI N w).toNat = R at *
  have hRG : R < G := by omega
  rw [if_neg (by omega), show b * G + G - 1 - R = G - 1 - R + b * G by omega, Nat.add_mul_div_right _ _ (by omega), Nat.div_eq_of_lt (by omega)]
  omega
/-! ### tips and meetings -/
section
variable {N w st t : Int} {s : Str}
theorem tip_iff {i : Int} (t0 : 0 ≤ t) (t1 : t < N) : (st + i * w) % N = t ↔ N ∣ w * i - (t - st - 0) := by
  rw [mod_is t0 t1, show st + i * w - t = w * i - (t - st - 0) by grind]
/-- a tooth is a tip, told by its first number -/
theorem tip_first (g : Gok N w s) (t0 : 0 ≤ t) (t1 : t < N) (h : gcI N w ∣ t - st) : ∃ j : Nat, (j : Int) < petI N w ∧ N ∣ w * j - (t - st - 0) ∧ (∀ i : Nat, i < j → ¬ N ∣ w * i - (t - st - 0)) ∧ (tipsC N w st).findIdx? (fun x => x == t) = some j := by
  have n3 := g.n3
  have w2 := g.w2
  have hN : 0 < N := by omega
  have q := gnum hN (show 0 < w by omega)
  have a0 := q.a0
  obtain ⟨d, hd⟩ := meet_ex (st := st) (t := t) (own := 0) hN (show 0 < w by omega)
  rcases hd with ⟨hn, _⟩ | ⟨j, hj, hmin, _⟩
  · exact absurd (by rwa [show t - st - 0 = t - st by omega]) hn
  · have jb : (j : Int) < petI N w := by
      by_cases c : (j : Int) < petI N w
      · exact c
      · refine absurd ?_ (hmin (j - (petI N w).toNat) (by omega))
        have e : w * ((j - (petI N w).toNat : Nat) : Int) - (t - st - 0) = (w * j - (t - st - 0)) - N * rndI N w := by
          have e1 : ((j - (petI N w).toNat : Nat) : Int) = j - petI N w := by omega
          have e2 : petI N w * w = rndI N w * N := q.l.symm.trans q.l2
          rw [e1, Int.mul_sub, Int.mul_comm w (petI N w), e2, Int.mul_comm (rndI N w)]
          omega
        rw [e]
        exact Int.dvd_sub hj (Int.dvd_mul_right ..)
    refine ⟨j, jb, hj, hmin, ?_⟩
    have len : (tipsC N w st).length = (petI N w).toNat := tipsL_len
    have at' : ∀ i (hi : i < (tipsC N w st).length), (tipsC N w st)[i] = (st + i * w) % N := fun i hi => by
      refine Option.some.inj ((List.getElem?_eq_getElem hi).symm.trans ?_)
      unfold tipsC tipsL
      rw [List.getElem?_map, List.getElem?_range (by omega)] <;> rfl
    rw [List.findIdx?_eq_some_iff_getElem]
    refine ⟨by omega, ?_, fun i hi => ?_⟩
    · rw [at', beq_iff_eq, tip_iff t0 t1]
      exact hj
    · rw [at', beq_iff_eq, tip_iff t0 t1]
      exact hmin i hi
theorem tipsC_mem (g : Gok N w s) (t0 : 0 ≤ t) (t1 : t < N) : t ∈ tipsC N w st ↔ gcI N w ∣ t - st := by
  constructor
  · intro h
    obtain ⟨k, _, e⟩ := tipsL_mem.mp h
    have := gcd_dvd_of ((tip_iff t0 t1).mp e)
    rwa [show t - st - 0 = t - st by omega] at this
  · intro h
    obtain ⟨j, j1, j2, _⟩ := tip_first g t0 t1 h
    exact tipsL_mem.mpr ⟨j, by omega, (tip_iff t0 t1).mpr j2⟩
end

/-! ### wheelcurves/contacts.py: what the mirrors give -/
section
variable {N w st k t own : Int} {s : Str}
end

/-! ### wheelcurves/tips.py, same.py: what the mirrors give -/
section
variable {N w st k t n : Int} {s : Str}
theorem rngD_map {lo : Int} {n : Nat} : rngD lo n = (List.range n).map fun (i : Nat) => PyData.int (lo + i) := rfl
theorem rngD0 {n : Nat} : rngD 0 n = (List.range n).map fun (i : Nat) => PyData.int (i : Int) := by
  rw [rngD_map]
  congr 1
  funext i
  rw [Int.zero_add]
theorem idxD_ints {t : Int} : ∀ {ns : List Int}, idxD (.int t) (ns.map .int) = ns.findIdx? fun x => x == t
  | [] => rfl
  | x :: r => by
    rw [List.map_cons, idxD, List.findIdx?_cons, idxD_ints (ns := r), PyData.eqv]
theorem hIndex_i {t : Int} {ns : List Int} {j : Nat} (h : ns.findIdx? (fun x => x == t) = some j) : hIndex (ns.map .int) [.int t] = .ok (.int j) := by
  unfold hIndex
  dsimp only
  rw [shp_int, shp_ints, idxD_ints, h] <;> rfl
end

/-! ### contacts.py, meetings: what the mirrors give -/
section
variable {N w st k t own : Int} {s : Str} {d : Dt}
end

/-! ### tips, further -/
section
variable {N w st t : Int} {s : Str}
theorem dvd_mul_w (g : Gok N w s) {x : Int} : N ∣ w * x ↔ petI N w ∣ x := by
  have n3 := g.n3
  have w2 := g.w2
  have hN : 0 < N := by omega
  have hW : 0 < w := by omega
  have q := gnum hN hW
  have e : N ∣ w * x ↔ lenI N w ∣ w * x := by
    rw [len_dvd hN hW]
    exact ⟨fun h => ⟨h, Int.dvd_mul_right ..⟩, And.left⟩
  rw [e, q.l, Int.mul_comm (petI N w) w]
  constructor
  · rintro ⟨c, hc⟩
    refine ⟨c, Int.eq_of_mul_eq_mul_left (show w ≠ 0 by omega) ?_⟩
    rw [hc, Int.mul_assoc]
  · rintro ⟨c, rfl⟩
    exact ⟨c, by rw [Int.mul_assoc]⟩
theorem tip_eq (g : Gok N w s) {i j : Int} : (st + i * w) % N = (st + j * w) % N ↔ petI N w ∣ i - j := by
  rw [Int.emod_eq_emod_iff_emod_sub_eq_zero, ← dvd_mul_w g, show st + i * w - (st + j * w) = w * (i - j) by grind]
  exact ⟨Int.dvd_of_emod_eq_zero, Int.emod_eq_zero_of_dvd⟩
theorem tipsL_get {n i : Nat} (h : i < n) : (tipsL N w st n)[i]? = some ((st + i * w) % N) := by
  unfold tipsL
  rw [List.getElem?_map, List.getElem?_range h] <;> rfl
theorem tipsL_nodup (g : Gok N w s) {n : Nat} (h : n ≤ (petI N w).toNat) : (tipsL N w st n).Nodup := by
  have pb := pet_bd g
  rw [List.nodup_iff_pairwise_ne] at *
  unfold tipsL
  rw [List.pairwise_map]
  refine List.Pairwise.imp_of_mem (R := fun a b => a < b) (fun {a b} ha hb hab => ?_) List.pairwise_lt_range
  have ha' := List.mem_range.mp ha
  have hb' := List.mem_range.mp hb
  intro e
  obtain ⟨c, hc⟩ := (tip_eq g).mp e
  have h1 : (a : Int) - b < 0 := by omega
  have h2 : -(petI N w) < (a : Int) - b := by omega
  rw [hc] at h1 h2
  have c1 : c < 0 := by
    by_cases z : 0 ≤ c
    · have := Int.mul_nonneg (show 0 ≤ petI N w by omega) z
      omega
    · omega
  have c2 : petI N w * c ≤ petI N w * (-1) := Int.mul_le_mul_of_nonneg_left (by omega) (by omega)
  omega
theorem tipsC_nodup (g : Gok N w s) : (tipsC N w st).Nodup := tipsL_nodup g (Nat.le_refl _)
theorem tipsC_len (g : Gok N w s) : ((tipsC N w st).length : Int) = petI N w := by
  have pb := pet_bd g
  unfold tipsC
  rw [tipsL_len]
  omega
theorem setI_len {l : List Int} (h : l.Nodup) : (setI l).length = l.length := nodup_len (asc_nodup (setI_asc l)) h fun j => setI_mem j l
theorem tipsL_all (g : Gok N w s) {n : Nat} (h : (petI N w).toNat ≤ n) {x : Int} : x ∈ tipsL N w st n ↔ x ∈ tipsC N w st := by
  have pb := pet_bd g
  rw [tipsL_mem, tipsL_mem]
  constructor
  · rintro ⟨k, hk, e⟩
    refine ⟨(k % (petI N w).toNat), Nat.mod_lt _ (by omega), ?_⟩
    rw [← e, tip_eq g]
    have e2 : ((k % (petI N w).toNat : Nat) : Int) = (k : Int) % petI N w := by
      rw [Int.natCast_emod, show (((petI N w).toNat : Nat) : Int) = petI N w by omega]
    rw [e2]
    have := Int.emod_add_mul_ediv (k : Int) (petI N w)
    exact ⟨-((k : Int) / petI N w), by rw [Int.mul_neg]; omega⟩
  · rintro ⟨k, hk, e⟩
    exact ⟨k, by omega, e⟩
theorem setI_ext {l m : List Int} (h : ∀ j, j ∈ l ↔ j ∈ m) : setI l = setI m := asc_unique (setI_asc l) (setI_asc m) fun j => (setI_mem j l).trans ((h j).trans (setI_mem j m).symm)
theorem tipsL_set_len (g : Gok N w s) {n : Nat} : (setI (tipsL N w st n)).length = min n (petI N w).toNat := by
  by_cases h : n ≤ (petI N w).toNat
  · rw [setI_len (tipsL_nodup g h), tipsL_len, Nat.min_eq_left h]
  · rw [setI_ext (fun j => tipsL_all g (n := n) (x := j) (by omega)), setI_len (tipsC_nodup g), tipsL_len, Nat.min_eq_right (by omega)]
theorem tip_lt (g : Gok N w s) {i : Int} : 0 ≤ (st + i * w) % N ∧ (st + i * w) % N < N := by
  have n3 := g.n3
  exact ⟨Int.emod_nonneg _ (by omega), Int.emod_lt_of_pos _ (by omega)⟩
/-- the next tip along the ring -/
def nextJ (N w st t : Int) : Nat := ((st - t) % gcI N w).toNat
theorem next_mem (g : Gok N w s) (j : Int) : (t + j) % N ∈ tipsC N w st ↔ gcI N w ∣ t + j - st := by
  have n3 := g.n3
  rw [tipsC_mem g (Int.emod_nonneg _ (by omega)) (Int.emod_lt_of_pos _ (by omega))]
  have d : gcI N w ∣ N := Int.gcd_dvd_left ..
  have e := Int.emod_add_mul_ediv (t + j) N
  have d2 : gcI N w ∣ N * ((t + j) / N) := Int.dvd_trans d (Int.dvd_mul_right ..)
  constructor
  · intro h
    have := Int.dvd_add h d2
    rwa [show (t + j) % N - st + N * ((t + j) / N) = t + j - st by omega] at this
  · intro h
    have := Int.dvd_sub h d2
    rwa [show t + j - st - N * ((t + j) / N) = (t + j) % N - st by omega] at this
theorem nextJ_ok (g : Gok N w s) : (t + nextJ N w st t) % N ∈ tipsC N w st ∧ (∀ m : Nat, m < nextJ N w st t → (t + m) % N ∉ tipsC N w st) ∧ (nextJ N w st t : Int) < N := by
  have gs := gcI_small g
  have n3 := g.n3
  have g1 := gcI_le (a := N) (b := w) (by omega)
  have r0 := Int.emod_nonneg (st - t) (show gcI N w ≠ 0 by omega)
  have r1 := Int.emod_lt_of_pos (st - t) gs.1
  have ej : (nextJ N w st t : Int) = (st - t) % gcI N w := by unfold nextJ; omega
  have e := Int.emod_add_mul_ediv (st - t) (gcI N w)
  refine ⟨?_, fun m hm h => ?_, by omega⟩
  · rw [next_mem g, ej]
    exact ⟨-((st - t) / gcI N w), by rw [Int.mul_neg]; omega⟩
  · rw [next_mem g] at h
    obtain ⟨c, hc⟩ := h
    have h1 : (m : Int) - (st - t) % gcI N w = gcI N w * (c + (st - t) / gcI N w) := by
      rw [Int.mul_add]
      omega
    have h2 : (m : Int) - (st - t) % gcI N w < 0 := by omega
    have h3 : -(gcI N w) < (m : Int) - (st - t) % gcI N w := by omega
    rw [h1] at h2 h3
    generalize c + (st - t) / gcI N w = z at h2 h3
    have c1 : z < 0 := by
      by_cases q : 0 ≤ z
      · have := Int.mul_nonneg (show 0 ≤ gcI N w by omega) q
        omega
      · omega
    have c2 : gcI N w * z ≤ gcI N w * (-1) := Int.mul_le_mul_of_nonneg_left (by omega) (by omega)
    omega
end

/-! ### the law's own helpers: what the mirrors give -/
theorem hEq_nil {ds : List Dt} (h : pls ds = true) (hd : ∀ d ∈ ds, d.depth ≤ 60) : hEq (.list ds) (.list []) = .ok (.bool ds.isEmpty) := by
  unfold hEq
  rw [shp_list (n := 0) h hd, shp_list (n := 0) (ds := []) (by rw [pls]) (by simp), PyData.eqv]
  cases ds <;> simp [PyData.eqvAll]
theorem hNe_nil {ds : List Dt} (h : pls ds = true) (hd : ∀ d ∈ ds, d.depth ≤ 60) : hNe (.list ds) (.list []) = .ok (.bool (!ds.isEmpty)) := by
  unfold hNe
  rw [shp_list (n := 0) h hd, shp_list (n := 0) (ds := []) (by rw [pls]) (by simp), PyData.eqv]
  cases ds <;> simp [PyData.eqvAll]
theorem shp_ii {a b : Int} : SeqAt.shaped (.tuple [.int a, .int b]) = true := shp_pl (by simp [pl, pls]) (by simp [PyData.depth, PyData.depthAll])
theorem hEq_ii {a b c d : Int} : hEq (.tuple [.int a, .int b]) (.tuple [.int c, .int d]) = .ok (.bool (decide (a = c) && decide (b = d))) := by
  unfold hEq
  rw [shp_ii, shp_ii]
  simp [PyData.eqv, PyData.eqvAll, Bool.beq_eq_decide_eq]
theorem hNe_ii {a b c d : Int} : hNe (.tuple [.int a, .int b]) (.tuple [.int c, .int d]) = .ok (.bool (!(decide (a = c) && decide (b = d)))) := by
  unfold hNe
  rw [shp_ii, shp_ii]
  simp [PyData.eqv, PyData.eqvAll, Bool.beq_eq_decide_eq]
/-- a for that always goes on, told by its cells -/
theorem forL_fn {α : Type} {dt : α → Dt} {g : Tg} {b : MS} (F : Nat → MEnv) : ∀ (l : List α) (i : Nat), (∀ (j : Nat) (x : α), l[j]? = some x → ∃ ρ1, g.put (dt x) (F (i + j)) = .ok ρ1 ∧ b ρ1 = .ret (.nx (F (i + j + 1)))) → forL g b (l.map dt) (F i) = .ret (.nx (F (i + l.length)))
  | [], i, _ => rfl
  | x :: l, i, h => by
    obtain ⟨ρ1, h1, h2⟩ := h 0 x rfl
    show (ofO (g.put (dt x) (F i)) (F i) fun ρ1 => (b ρ1).bind (forK (forL g b (l.map dt)))) = _
    rw [show i + 0 = i from rfl] at h1 h2
    rw [h1, ofO_ok, h2, T.bind_ret, forK_nx, forL_fn F l (i + 1) fun j y hy => by
      have := h (j + 1) y hy
      rw [show i + (j + 1) = i + 1 + j by omega] at this
      exact this, List.length_cons, show i + 1 + l.length = i + (l.length + 1) by omega]
theorem hIx_last {xs : List Dt} {a : Dt} : hIx (.list (xs ++ [a])) (.int (-1)) = .ok a := hIx_lst (L2.atI_last xs a)
theorem tipsL_succ {N w st : Int} {n : Nat} : tipsL N w st (n + 1) = tipsL N w st n ++ [(st + n * w) % N] := by
  unfold tipsL
  rw [List.range_succ, List.map_append] <;> rfl
section
variable {N w st k t n : Int} {s : Str}
end

/-! ### pairs of numbers -/
theorem pp_pl (x : Int × Int) : pl (pp x) = true := by simp [pp, pl, pls]
theorem pp_dep (x : Int × Int) : (pp x).depth ≤ 1 := by simp [pp, PyData.depth, PyData.depthAll]
theorem pp_inj {x y : Int × Int} : pp x = pp y ↔ x = y := by
  constructor
  · intro h
    unfold pp at h
    injection h with h
    injection h with h1 h2
    injection h2 with h2 _
    injection h1 with h1
    injection h2 with h2
    exact Prod.ext h1 h2
  · rintro rfl
    rfl
theorem pps_pl {ps : List (Int × Int)} : pls (ps.map pp) = true := pls_map pp_pl
theorem pps_dep {ps : List (Int × Int)} : ∀ d ∈ ps.map pp, d.depth ≤ 60 := fun d hd => by
  obtain ⟨x, _, rfl⟩ := List.mem_map.mp hd
  have := pp_dep x
  omega
theorem pps_inj : ∀ {ps qs : List (Int × Int)}, ps.map pp = qs.map pp ↔ ps = qs
  | [], [] => by simp
  | [], _ :: _ => by simp
  | _ :: _, [] => by simp
  | x :: ps, y :: qs => by rw [List.map_cons, List.map_cons, List.cons.injEq, List.cons.injEq, pp_inj, pps_inj]
theorem mem_pps {x : Int × Int} {ps : List (Int × Int)} : pp x ∈ ps.map pp ↔ x ∈ ps := by
  rw [List.mem_map]
  exact ⟨fun ⟨y, h, e⟩ => pp_inj.mp e ▸ h, fun h => ⟨x, h, rfl⟩⟩
theorem shp_pp {x : Int × Int} : SeqAt.shaped (pp x) = true := shp_pl (pp_pl x) (by have := pp_dep x; omega)
theorem shp_pps {ps : List (Int × Int)} : SeqAt.shaped (.list (ps.map pp)) = true := shp_list (n := 0) pps_pl pps_dep
theorem hIn_P {a b : Int} {ps : List (Int × Int)} : hIn (.tuple [.int a, .int b]) (.list (ps.map pp)) = .ok (.bool (decide ((a, b) ∈ ps))) := by
  show hIn (pp (a, b)) _ = _
  unfold hIn
  dsimp only
  rw [shp_pp, shp_pps, any_iff (b := decide ((a, b) ∈ ps)) pps_pl (pp_pl _) (by rw [mem_pps, decide_eq_true_eq])] <;> rfl
theorem idxD_pps {x : Int × Int} : ∀ {ps : List (Int × Int)}, idxD (pp x) (ps.map pp) = ps.findIdx? fun y => y == x
  | [] => rfl
  | y :: r => by
    rw [List.map_cons, idxD, List.findIdx?_cons, idxD_pps (ps := r)]
    have : PyData.eqv (pp y) (pp x) = (y == x) := Bool.eq_iff_iff.mpr ((eqv_pl (pp_pl y) (pp_pl x)).trans (pp_inj.trans beq_iff_eq.symm))
    rw [this]
theorem hIndex_P {a b : Int} {ps : List (Int × Int)} {j : Nat} (h : ps.findIdx? (fun y => y == (a, b)) = some j) : hIndex (ps.map pp) [.tuple [.int a, .int b]] = .ok (.int j) := by
  show hIndex _ [pp (a, b)] = _
  unfold hIndex
  dsimp only
  rw [shp_pp, shp_pps, idxD_pps, h] <;> rfl
theorem hEq_P {ps qs : List (Int × Int)} : hEq (.list (ps.map pp)) (.list (qs.map pp)) = .ok (.bool (decide (ps = qs))) := by
  unfold hEq
  rw [shp_pps, shp_pps]
  have : PyData.eqv (.list (ps.map pp)) (.list (qs.map pp)) = decide (ps = qs) := Bool.eq_iff_iff.mpr ((eqv_pl (by rw [pl]; exact pps_pl) (by rw [pl]; exact pps_pl)).trans (by rw [PyData.list.injEq, pps_inj, decide_eq_true_eq]))
  rw [this] <;> rfl
theorem hNe_P {ps qs : List (Int × Int)} : hNe (.list (ps.map pp)) (.list (qs.map pp)) = .ok (.bool (!decide (ps = qs))) := by
  unfold hNe
  rw [shp_pps, shp_pps]
  have : PyData.eqv (.list (ps.map pp)) (.list (qs.map pp)) = decide (ps = qs) := Bool.eq_iff_iff.mpr ((eqv_pl (by rw [pl]; exact pps_pl) (by rw [pl]; exact pps_pl)).trans (by rw [PyData.list.injEq, pps_inj, decide_eq_true_eq]))
  rw [this] <;> rfl
theorem noLst_pp {x : Int × Int} : noLst (pp x) = true := noLst_ii
theorem cutL_1 {α : Type} {xs : List α} : cutL xs (some 1) none = xs.drop 1 := cutL_from 1
theorem cutL_t1 {α : Type} {xs : List α} : cutL xs none (some 1) = xs.take 1 := cutL_to 1
theorem zipD_map {xs ys : List Int} : zipD (xs.map .int) (ys.map .int) = (xs.zip ys).map pp := by
  induction xs generalizing ys with
  | nil => cases ys <;> rfl
  | cons x xs ih =>
    cases ys with
    | nil => rfl
    | cons y ys =>
      show .tuple [.int x, .int y] :: zipD (xs.map .int) (ys.map .int) = _
      rw [ih] <;> rfl
theorem gFn_pps {ps : List (Int × Int)} : gFn (.list (ps.map pp)) = .ok (.list (ps.map pp)) := by
  unfold gFn
  dsimp only
  rw [show noLsts (ps.map pp) = true by
    induction ps with
    | nil => rfl
    | cons x r ih =>
      rw [List.map_cons, noLsts, noLst_pp, ih] <;> rfl] <;> rfl
/-- the pairs rolled -/
def rollP (N w st : Int) (n : Nat) : List (Int × Int) := (List.range n).map fun (i : Nat) => ((st + i) % N, (i : Int) % w)
theorem roll_pp {N w st : Int} {n : Nat} : roll N w st n = (rollP N w st n).map pp := by
  unfold roll rollP
  rw [List.map_map] <;> rfl
theorem rollP_len {N w st : Int} {n : Nat} : (rollP N w st n).length = n := by
  unfold rollP
  rw [List.length_map, List.length_range]
theorem rollP_get {N w st : Int} {n i : Nat} (h : i < n) : (rollP N w st n)[i]? = some ((st + i) % N, (i : Int) % w) := by
  unfold rollP
  rw [List.getElem?_map, List.getElem?_range h] <;> rfl
section
variable {ρ : MEnv} {Q : Out → Prop} {X : Str → MEnv → Prop} {a : MP} {d : Dt} {i : Nat}
theorem sz_set (h : a ρ = .ok d) (k : Q (.nx (ρ.set i (cellOf d)))) : (sSet i a ρ).all Q X := by
  rw [sSet_e, h, ofO_ok]
  exact k
theorem sz_next (k : Q (.nx ρ)) : (sNext ρ).all Q X := k
end
section
variable {t : MS} {ρ : MEnv} {Q : Out → Prop} {X : Str → MEnv → Prop} {a b : MP} {d e : Dt} {i j : Nat}
theorem st_par (h : a ρ = .ok d) (h' : b ρ = .ok e) (k : (t ((ρ.set i (cellOf d)).set j (cellOf e))).all Q X) : (sSeq (sPar i j a b) t ρ).all Q X := all_nx (by rw [sPar_e, h, ofO_ok, h', ofO_ok]) k
end

/-! ### the last -/
def lastI : List Int → Int
  | [] => 0
  | x :: r => match r with
    | [] => x
    | _ :: _ => lastI r
theorem lastI_1 {x : Int} : lastI [x] = x := rfl
theorem lastI_2 {x y : Int} {r : List Int} : lastI (x :: y :: r) = lastI (y :: r) := rfl
theorem lastI_mem : ∀ {x : Int} {r : List Int}, lastI (x :: r) ∈ x :: r
  | x, [] => by rw [lastI_1]; exact List.mem_cons_self
  | x, y :: r => by rw [lastI_2]; exact List.mem_cons_of_mem _ lastI_mem
theorem lastI_app : ∀ (l : List Int) (x : Int), lastI (l ++ [x]) = x
  | [], _ => rfl
  | [_], _ => rfl
  | a :: b :: r, x => by
    show lastI (a :: b :: (r ++ [x])) = x
    rw [lastI_2]
    exact lastI_app (b :: r) x
theorem hIx_lastI {l : List Int} (h : l ≠ []) : hIx (.list (l.map .int)) (.int (-1)) = .ok (.int (lastI l)) := by
  obtain ⟨r, x, rfl⟩ : ∃ r x, l = r ++ [x] := ⟨l.dropLast, l.getLast h, (List.dropLast_concat_getLast h).symm⟩
  rw [List.map_append, lastI_app]
  exact hIx_last
theorem hCat_l {a b : List Dt} (h : a.length + b.length ≤ 100000) : hCat (.list a) (.list b) = .ok (.list (a ++ b)) := if_pos h
theorem hRep_l {a : List Dt} {k : Int} (h : -9223372036854775808 ≤ k ∧ k < 9223372036854775808 ∧ a.length * k.toNat ≤ 100000) : hRep (.list a) (.int k) = .ok (.list (repD a k.toNat)) := if_pos h

/-! ### gaps -/
/-- from each to the next -/
def stepsL : List Int → List Int
  | [] => []
  | x :: r => match r with
    | [] => []
    | y :: _ => (y - x) :: stepsL r
theorem stepsL_1 {x : Int} : stepsL [x] = [] := rfl
theorem stepsL_2 {x y : Int} {r : List Int} : stepsL (x :: y :: r) = (y - x) :: stepsL (y :: r) := rfl
def gapsOf (N : Int) (l : List Int) : List Int := stepsL l ++ [l.headD 0 + N - lastI l]
theorem stepsL_len : ∀ {l : List Int}, (stepsL l).length = l.length - 1
  | [] => rfl
  | [_] => rfl
  | x :: y :: r => by
    rw [stepsL_2, List.length_cons, stepsL_len (l := y :: r), List.length_cons, List.length_cons, List.length_cons]
    omega
theorem gapsOf_len {N : Int} {l : List Int} (h : l ≠ []) : (gapsOf N l).length = l.length := by
  unfold gapsOf
  have := List.length_pos_iff.mpr h
  rw [List.length_append, stepsL_len, List.length_singleton]
  omega
theorem gapsOf_ne {N : Int} {l : List Int} : gapsOf N l ≠ [] := by
  unfold gapsOf
  simp
theorem stepsL_sum : ∀ {x : Int} {r : List Int}, (stepsL (x :: r)).sum = lastI (x :: r) - x
  | x, [] => by rw [stepsL_1, lastI_1]; simp
  | x, y :: r => by
    rw [stepsL_2, lastI_2, List.sum_cons, stepsL_sum (x := y) (r := r)]
    omega
theorem gapsOf_sum {N : Int} {l : List Int} (h : l ≠ []) : (gapsOf N l).sum = N := by
  cases l with
  | nil => exact absurd rfl h
  | cons x r =>
    unfold gapsOf
    rw [List.sum_append, stepsL_sum]
    simp
    omega
theorem lastI_max : ∀ {x : Int} {r : List Int}, (x :: r).Pairwise (· < ·) → ∀ z ∈ x :: r, z ≤ lastI (x :: r)
  | x, [], _, z, hz => by rw [lastI_1]; simp at hz; omega
  | x, y :: r, h, z, hz => by
    obtain ⟨h1, h2⟩ := List.pairwise_cons.mp h
    rw [lastI_2]
    rcases List.mem_cons.mp hz with rfl | hz
    · have := lastI_max h2 y List.mem_cons_self
      have := h1 y List.mem_cons_self
      omega
    · exact lastI_max h2 z hz
/-- what a step is -/
theorem stepsL_mem : ∀ {l : List Int}, l.Pairwise (· < ·) → ∀ d ∈ stepsL l, ∃ x ∈ l, 0 < d ∧ x + d ∈ l ∧ ∀ z ∈ l, z ≤ x ∨ x + d ≤ z
  | [], _, _, h => absurd h List.not_mem_nil
  | [_], _, _, h => absurd h List.not_mem_nil
  | x :: y :: r, hp, d, h => by
    obtain ⟨h1, h2⟩ := List.pairwise_cons.mp hp
    rw [stepsL_2] at h
    rcases List.mem_cons.mp h with rfl | h
    · have l := h1 y List.mem_cons_self
      refine ⟨x, List.mem_cons_self, by omega, ?_, fun z hz => ?_⟩
      · rw [show x + (y - x) = y by omega]
        exact List.mem_cons_of_mem _ List.mem_cons_self
      · rcases List.mem_cons.mp hz with rfl | hz
        · exact .inl (Int.le_refl _)
        · rcases List.mem_cons.mp hz with rfl | hz
          · exact .inr (by omega)
          · have := (List.pairwise_cons.mp h2).1 z hz
            exact .inr (by omega)
    · obtain ⟨u, q1, q2, q3, q4⟩ := stepsL_mem h2 d h
      refine ⟨u, List.mem_cons_of_mem _ q1, q2, List.mem_cons_of_mem _ q3, fun z hz => ?_⟩
      rcases List.mem_cons.mp hz with rfl | hz
      · have := h1 u q1
        exact .inl (by omega)
      · exact q4 z hz
/-- what a gap is -/
theorem gapsOf_mem {N : Int} {l : List Int} (hp : l.Pairwise (· < ·)) (hb : ∀ x ∈ l, 0 ≤ x ∧ x < N) (hl : l ≠ []) {d : Int} (h : d ∈ gapsOf N l) :
    ∃ x ∈ l, 0 < d ∧ d ≤ N ∧ (x + d) % N ∈ l ∧ ∀ e, 0 < e → e < d → (x + e) % N ∉ l := by
  unfold gapsOf at h
  rcases List.mem_append.mp h with h | h
  · obtain ⟨x, q1, q2, q3, q4⟩ := stepsL_mem hp d h
    have bx := hb x q1
    have by' := hb _ q3
    refine ⟨x, q1, q2, by omega, ?_, fun e e0 e1 he => ?_⟩
    · rw [Int.emod_eq_of_lt (by omega) by'.2]
      exact q3
    · rw [Int.emod_eq_of_lt (by omega) (by omega)] at he
      rcases q4 _ he with z | z <;> omega
  · cases l with
    | nil => exact absurd rfl hl
    | cons a r =>
      rw [List.mem_singleton] at h
      rw [List.headD_cons] at h
      have m := lastI_mem (x := a) (r := r)
      have bl := hb _ m
      have ba := hb a List.mem_cons_self
      have mx := lastI_max hp
      have mn : ∀ z ∈ a :: r, a ≤ z := fun z hz => by
        rcases List.mem_cons.mp hz with rfl | hz
        · exact Int.le_refl _
        · have := (List.pairwise_cons.mp hp).1 z hz
          omega
      have la := mn _ m
      refine ⟨lastI (a :: r), m, by omega, by omega, ?_, fun e e0 e1 he => ?_⟩
      · rw [h, show lastI (a :: r) + (a + N - lastI (a :: r)) = a + N by omega, Int.add_emod_right, Int.emod_eq_of_lt ba.1 ba.2]
        exact List.mem_cons_self
      · by_cases c : lastI (a :: r) + e < N
        · rw [Int.emod_eq_of_lt (by omega) c] at he
          have := mx _ he
          omega
        · have e2 : (lastI (a :: r) + e) % N = lastI (a :: r) + e - N := by
            rw [show lastI (a :: r) + e = (lastI (a :: r) + e - N) + N by omega, Int.add_emod_right, Int.emod_eq_of_lt (by omega) (by omega)]
            omega
          rw [e2] at he
          have := mn _ he
          omega
/-- a gap is told by its first point -/
theorem gaps_pos {N : Int} {l : List Int} (hp : l.Pairwise (· < ·)) (hb : ∀ x ∈ l, 0 ≤ x ∧ x < N) (hl : l ≠ []) {d : Int} (h : d ∈ gapsOf N l) : 0 < d ∧ d ≤ N := by
  obtain ⟨_, _, h1, h2, _⟩ := gapsOf_mem hp hb hl h
  exact ⟨h1, h2⟩
/-- three gaps -/
theorem three_pos {P : Int → Int} {N n p q k m0 : Int} (hadd : ∀ i j, P (i + j) = (P i + P j) % N) (h0 : ∀ i, 0 ≤ P i) (h1 : ∀ i, P i < N) (hp : ∀ i, i ≠ 0 → -n < i → i < n → 0 < P i)
    (p0 : 0 < p) (p1 : p < n) (q0 : 0 < q) (q1 : q < n) (minp : ∀ i, 0 < i → i < n → P p ≤ P i) (minq : ∀ i, 0 < i → i < n → P (-q) ≤ P (-i)) (k0 : 0 ≤ k) (m1 : 0 < m0) (m2 : k + m0 < n)
    (hm : ∀ m, m ≠ 0 → 0 ≤ k + m → k + m < n → P m0 ≤ P m) : P m0 = P p ∨ P m0 = P (-q) ∨ P m0 = P p + P (-q) := by
  have a1 := minp m0 m1 (by omega)
  have N0 : 0 < N := by
    have := h0 0
    have := h1 0
    omega
  have md : ∀ x y : Int, 0 ≤ x → x < N → 0 ≤ y → y < N → (x + y) % N = x + y ∨ (x + y) % N = x + y - N := fun x y x0 x1 y0 y1 => by
    by_cases c : x + y < N
    · exact .inl (Int.emod_eq_of_lt (by omega) c)
    · refine .inr ?_
      rw [show x + y = (x + y - N) + N by omega, Int.add_emod_right, Int.emod_eq_of_lt (by omega) (by omega)]
      omega
  by_cases c : k + p < n
  · have := hm p (by omega) (by omega) c
    exact .inl (by omega)
  · have mp : m0 < p := by omega
    have b1 := minq (p - m0) (by omega) (by omega)
    have e1 : P m0 = (P p + P (-(p - m0))) % N := by
      rw [← hadd]
      congr 1
      omega
    have g1 : P m0 = P p + P (-(p - m0)) := by
      rcases md _ _ (h0 p) (h1 p) (h0 (-(p - m0))) (h1 (-(p - m0))) with z | z
      · rw [e1, z]
      · rw [z] at e1
        have := h1 (-(p - m0))
        omega
    have pp := hp p (by omega) (by omega) p1
    by_cases cq : q ≤ k
    · have := hm (-q) (by omega) (by omega) (by omega)
      omega
    · by_cases pq : p = q
      · subst pq
        have z : P (p + -p) = (P p + P (-p)) % N := hadd _ _
        have z0 : P (0 + 0) = (P 0 + P 0) % N := hadd _ _
        rw [Int.add_right_neg] at z
        rw [Int.add_zero] at z0
        have y0 := md _ _ (h0 0) (h1 0) (h0 0) (h1 0)
        have y1 := md _ _ (h0 p) (h1 p) (h0 (-p)) (h1 (-p))
        have := h0 0
        have := h1 0
        have := h1 m0
        have := h0 (-p)
        omega
      · have b2 := hm (p - q) (by omega) (by omega) (by omega)
        have e2 : P (p - q) = (P p + P (-q)) % N := by
          rw [← hadd]
          congr 1
        have := md _ _ (h0 p) (h1 p) (h0 (-q)) (h1 (-q))
        have := h0 (-q)
        refine .inr (.inr ?_)
        rcases this with _
        rcases md _ _ (h0 p) (h1 p) (h0 (-q)) (h1 (-q)) with z | z <;> omega
theorem three_any {P : Int → Int} {N n p q k m0 : Int} (hadd : ∀ i j, P (i + j) = (P i + P j) % N) (h0 : ∀ i, 0 ≤ P i) (h1 : ∀ i, P i < N) (hp : ∀ i, i ≠ 0 → -n < i → i < n → 0 < P i)
    (p0 : 0 < p) (p1 : p < n) (q0 : 0 < q) (q1 : q < n) (minp : ∀ i, 0 < i → i < n → P p ≤ P i) (minq : ∀ i, 0 < i → i < n → P (-q) ≤ P (-i)) (k0 : 0 ≤ k) (k1 : k < n) (m1 : m0 ≠ 0) (m2 : 0 ≤ k + m0) (m3 : k + m0 < n)
    (hm : ∀ m, m ≠ 0 → 0 ≤ k + m → k + m < n → P m0 ≤ P m) : P m0 = P p ∨ P m0 = P (-q) ∨ P m0 = P p + P (-q) := by
  by_cases c : 0 < m0
  · exact three_pos hadd h0 h1 hp p0 p1 q0 q1 minp minq k0 c m3 hm
  · have h := three_pos (P := fun i => P (-i)) (N := N) (n := n) (p := q) (q := p) (k := n - 1 - k) (m0 := -m0) (fun i j => by rw [← hadd]; congr 1; omega) (fun i => h0 _) (fun i => h1 _) (fun i i0 i1 i2 => hp _ (by omega) (by omega) (by omega)) q0 q1 p0 p1 minq (fun i i0 i1 => by rw [Int.neg_neg, Int.neg_neg]; exact minp i i0 i1) (by omega) (by omega) (by omega) (fun m hm0 hm1 hm2 => by
      try dsimp only
      rw [Int.neg_neg]
      exact hm (-m) (by omega) (by omega) (by omega))
    try dsimp only at h
    rw [Int.neg_neg, Int.neg_neg] at h
    omega
theorem min_ex (f : Int → Int) : ∀ n : Nat, ∃ p : Int, 0 < p ∧ p ≤ n + 1 ∧ ∀ i : Int, 0 < i → i ≤ n + 1 → f p ≤ f i
  | 0 => ⟨1, by decide, by decide, fun i h0 h1 => by rw [show i = 1 by omega]; exact Int.le_refl _⟩
  | n + 1 => by
    obtain ⟨p, h0, h1, h2⟩ := min_ex f n
    by_cases c : f p ≤ f (n + 2)
    · refine ⟨p, h0, by omega, fun i i0 i1 => ?_⟩
      by_cases e : i = n + 2
      · rw [e]
        exact c
      · exact h2 i i0 (by omega)
    · refine ⟨n + 2, by omega, by omega, fun i i0 i1 => ?_⟩
      by_cases e : i = n + 2
      · rw [e]
        exact Int.le_refl _
      · have := h2 i i0 (by omega)
        omega
section
variable {N w st t : Int} {s : Str}
theorem P_pos (g : Gok N w s) {i : Int} (h : i ≠ 0) (h1 : -(petI N w) < i) (h2 : i < petI N w) : 0 < i * w % N := by
  have n3 := g.n3
  have h0 := Int.emod_nonneg (i * w) (show N ≠ 0 by omega)
  by_cases e : i * w % N = 0
  · exfalso
    have d := (dvd_mul_w g (x := i)).mp (by rw [Int.mul_comm]; exact Int.dvd_of_emod_eq_zero e)
    obtain ⟨c, hc⟩ := d
    have pb := pet_bd g
    have : c ≠ 0 := by
      rintro rfl
      simp at hc
      exact h hc
    by_cases c0 : 0 < c
    · have := Int.mul_le_mul_of_nonneg_left (show 1 ≤ c by omega) (show 0 ≤ petI N w by omega)
      omega
    · have := Int.mul_le_mul_of_nonneg_left (show c ≤ -1 by omega) (show 0 ≤ petI N w by omega)
      omega
  · omega
theorem tips0_mem {n : Nat} {x : Int} : x ∈ setI (tipsL N w 0 n) ↔ ∃ k : Nat, k < n ∧ (k : Int) * w % N = x := by
  rw [setI_mem, tipsL_mem]
  constructor
  · rintro ⟨k, h, e⟩
    exact ⟨k, h, by rw [← e, Int.zero_add]⟩
  · rintro ⟨k, h, e⟩
    exact ⟨k, h, by rw [← e, Int.zero_add]⟩
theorem tips0_bd (g : Gok N w s) {n : Nat} : ∀ x ∈ setI (tipsL N w 0 n), 0 ≤ x ∧ x < N := fun x hx => by
  have n3 := g.n3
  obtain ⟨k, _, rfl⟩ := tips0_mem.mp hx
  exact ⟨Int.emod_nonneg _ (by omega), Int.emod_lt_of_pos _ (by omega)⟩
theorem tips0_ne {n : Nat} (h : 0 < n) : setI (tipsL N w 0 n) ≠ [] := fun e => by
  have : (0 : Int) ∈ setI (tipsL N w 0 n) := tips0_mem.mpr ⟨0, h, by simp⟩
  rw [e] at this
  exact List.not_mem_nil this
/-- the gaps after some arcs -/
def gapsL (N w a : Int) : List Int := gapsOf N (setI (tipsL N w 0 (a + 1).toNat))
/-- no more than a round -/
theorem gaps_cut (g : Gok N w s) {n : Nat} (h : (petI N w).toNat ≤ n) : setI (tipsL N w 0 n) = setI (tipsL N w 0 (petI N w).toNat) := setI_ext fun j => tipsL_all g h
theorem three_gaps (g : Gok N w s) {n : Nat} (n0 : 0 < n) (n1 : n ≤ (petI N w).toNat) : ∃ α β : Int, 0 < α ∧ 0 < β ∧ ∀ d ∈ gapsOf N (setI (tipsL N w 0 n)), d = α ∨ d = β ∨ d = α + β := by
  have n3 := g.n3
  have pb := pet_bd g
  by_cases c1 : n = 1
  · subst c1
    refine ⟨N, N, by omega, by omega, fun d hd => .inl ?_⟩
    have e : setI (tipsL N w 0 1) = [0] := by
      show setI [(0 + ((0 : Nat) : Int) * w) % N] = _
      simp [setI, insU]
    rw [e] at hd
    unfold gapsOf at hd
    rw [stepsL_1, lastI_1, List.nil_append, List.mem_singleton] at hd
    rw [hd]
    simp
  · have hadd : ∀ i j : Int, (i + j) * w % N = (i * w % N + j * w % N) % N := fun i j => by rw [Int.add_mul, Int.add_emod]
    obtain ⟨p, p0, p1, p2⟩ := min_ex (fun i => i * w % N) (n - 2)
    obtain ⟨q, q0, q1, q2⟩ := min_ex (fun i => -i * w % N) (n - 2)
    try dsimp only at p2 q2
    refine ⟨p * w % N, -q * w % N, P_pos g (by omega) (by omega) (by omega), P_pos g (by omega) (by omega) (by omega), fun d hd => ?_⟩
    obtain ⟨x, hx, d0, dN, hy, hn⟩ := gapsOf_mem (setI_asc _) (tips0_bd g) (tips0_ne n0) hd
    obtain ⟨k, hk, rfl⟩ := tips0_mem.mp hx
    obtain ⟨j, hj, ej⟩ := tips0_mem.mp hy
    have step : ∀ m : Int, m ≠ 0 → 0 ≤ (k : Int) + m → (k : Int) + m < n → d ≤ m * w % N := fun m m0 m1 m2 => by
      by_cases c : d ≤ m * w % N
      · exact c
      · exfalso
        refine hn (m * w % N) (P_pos g m0 (by omega) (by omega)) (by omega) (tips0_mem.mpr ⟨((k : Int) + m).toNat, by omega, ?_⟩)
        rw [show ((((k : Int) + m).toNat : Nat) : Int) = k + m by omega, hadd]
    have dlt : d < N := by
      have lt : ∀ m : Int, m * w % N < N := fun m => Int.emod_lt_of_pos _ (by omega)
      by_cases c : k = 0
      · have := step 1 (by omega) (by omega) (by omega)
        have := lt 1
        omega
      · have := step (-1) (by omega) (by omega) (by omega)
        have := lt (-1)
        omega
    have hd' : d = ((j : Int) - k) * w % N := by
      have e1 : ((j : Int) - k) * w % N = ((k : Int) * w % N + d - k * w) % N := by
        rw [Int.sub_mul, Int.sub_emod, ej, ← Int.sub_emod]
      rw [e1]
      have e2 := Int.emod_add_mul_ediv ((k : Int) * w) N
      rw [show (k : Int) * w % N + d - k * w = d + N * (-((k : Int) * w / N)) by rw [Int.mul_neg]; omega, Int.add_mul_emod_self_left, Int.emod_eq_of_lt (by omega) dlt]
    have jk : (j : Int) - k ≠ 0 := fun z => by
      rw [z] at hd'
      simp at hd'
      omega
    have h := three_any (P := fun i => i * w % N) (N := N) (n := n) (p := p) (q := q) (k := k) (m0 := (j : Int) - k) hadd (fun i => Int.emod_nonneg _ (by omega)) (fun i => Int.emod_lt_of_pos _ (by omega)) (fun i i0 i1 i2 => P_pos g i0 (by omega) (by omega)) p0 (by omega) q0 (by omega) (fun i i0 i1 => p2 i i0 (by omega)) (fun i i0 i1 => q2 i i0 (by omega)) (by omega) (by omega) jk (by omega) (by omega) (fun m m0 m1 m2 => by
      try dsimp only
      rw [← hd']
      exact step m m0 m1 m2)
    try dsimp only at h
    rw [← hd'] at h
    exact h
end
theorem asc3 {α β : Int} (ha : 0 < α) (hb : 0 < β) : ∀ {l : List Int}, l.Pairwise (· < ·) → (∀ d ∈ l, d = α ∨ d = β ∨ d = α + β) → l.length ≤ 3 ∧ ∀ x y z, l = [x, y, z] → x + y = z
  | [], _, _ => ⟨by decide, nofun⟩
  | [_], _, _ => ⟨by simp, nofun⟩
  | [_, _], _, _ => ⟨by simp, nofun⟩
  | [a, b, c], h, hm => by
    refine ⟨by simp, fun x y z e => ?_⟩
    simp only [List.cons.injEq, and_true] at e
    obtain ⟨rfl, rfl, rfl⟩ := e
    obtain ⟨h1, h2⟩ := List.pairwise_cons.mp h
    have l1 := h1 b (by simp)
    have l2 := h1 c (by simp)
    have l3 := (List.pairwise_cons.mp h2).1 c (by simp)
    have m1 := hm a (by simp)
    have m2 := hm b (by simp)
    have m3 := hm c (by simp)
    omega
  | a :: b :: c :: d :: r, h, hm => by
    exfalso
    obtain ⟨h1, h2⟩ := List.pairwise_cons.mp h
    obtain ⟨h3, h4⟩ := List.pairwise_cons.mp h2
    have l1 := h1 b (by simp)
    have l2 := h3 c (by simp)
    have l3 := (List.pairwise_cons.mp h4).1 d (by simp)
    have m1 := hm a (by simp)
    have m2 := hm b (by simp)
    have m3 := hm c (by simp)
    have m4 := hm d (by simp)
    omega
section
variable {N w st t : Int} {s : Str}
theorem kinds3 (g : Gok N w s) {a : Int} (a0 : 0 ≤ a) : (setI (gapsL N w a)).length ≤ 3 ∧ ∀ x y z, setI (gapsL N w a) = [x, y, z] → x + y = z := by
  have pb := pet_bd g
  have key : ∃ α β : Int, 0 < α ∧ 0 < β ∧ ∀ d ∈ gapsL N w a, d = α ∨ d = β ∨ d = α + β := by
    unfold gapsL
    by_cases c : (a + 1).toNat ≤ (petI N w).toNat
    · exact three_gaps g (by omega) c
    · rw [gaps_cut g (by omega)]
      exact three_gaps g (by omega) (Nat.le_refl _)
  obtain ⟨α, β, ha, hb, hm⟩ := key
  exact asc3 ha hb (setI_asc _) fun d hd => hm d ((setI_mem d _).mp hd)
theorem gaps_dvd (g : Gok N w s) {n : Nat} (n0 : 0 < n) {d : Int} (h : d ∈ gapsOf N (setI (tipsL N w 0 n))) : gcI N w ∣ d ∧ 0 < d ∧ gcI N w ≤ d := by
  have gs := gcI_small g
  obtain ⟨x, hx, d0, _, hy, _⟩ := gapsOf_mem (setI_asc _) (tips0_bd g) (tips0_ne n0) h
  have dN : gcI N w ∣ N := Int.gcd_dvd_left ..
  have dw : gcI N w ∣ w := Int.gcd_dvd_right ..
  have pt : ∀ z : Int, gcI N w ∣ z % N ↔ gcI N w ∣ z := fun z => by
    have e := Int.emod_add_mul_ediv z N
    have d2 : gcI N w ∣ N * (z / N) := Int.dvd_trans dN (Int.dvd_mul_right ..)
    constructor
    · intro h
      rw [← e]
      exact Int.dvd_add h d2
    · intro h
      rw [show z % N = z - N * (z / N) by omega]
      exact Int.dvd_sub h d2
  have mem : ∀ z ∈ setI (tipsL N w 0 n), gcI N w ∣ z := fun z hz => by
    obtain ⟨k, _, rfl⟩ := tips0_mem.mp hz
    exact (pt _).mpr (Int.dvd_trans dw (Int.dvd_mul_left ..))
  have h1 := (pt _).mp (mem _ hy)
  have h2 := Int.dvd_sub h1 (mem _ hx)
  rw [show x + d - x = d by omega] at h2
  exact ⟨h2, d0, Int.le_of_dvd d0 h2⟩
theorem gaps_full (g : Gok N w s) {n : Nat} (h : (petI N w).toNat ≤ n) : gapsOf N (setI (tipsL N w 0 n)) = List.replicate (petI N w).toNat (gcI N w) := by
  have pb := pet_bd g
  have n3 := g.n3
  have gs := gcI_small g
  have g1 := gcI_le (a := N) (b := w) (by omega)
  rw [gaps_cut g h, List.eq_replicate_iff]
  refine ⟨?_, fun d hd => ?_⟩
  · rw [gapsOf_len (tips0_ne (by omega)), tipsL_set_len g, Nat.min_self]
  · obtain ⟨_, d0, dg⟩ := gaps_dvd g (by omega) hd
    obtain ⟨x, hx, _, _, _, hn⟩ := gapsOf_mem (setI_asc _) (tips0_bd g) (tips0_ne (by omega)) hd
    have bx := tips0_bd g x hx
    by_cases c : d ≤ gcI N w
    · omega
    · exfalso
      refine hn (gcI N w) gs.1 (by omega) ?_
      rw [setI_mem] at hx ⊢
      have hx' := (tipsC_mem g bx.1 bx.2).mp hx
      refine (next_mem (st := 0) (t := x) g (gcI N w)).mpr ?_
      exact Int.dvd_sub (Int.dvd_add (by rwa [Int.sub_zero] at hx') (Int.dvd_refl _)) (Int.dvd_zero _)
theorem gapsL_full (g : Gok N w s) {a : Int} (h : petI N w ≤ a + 1) : gapsL N w a = List.replicate (petI N w).toNat (gcI N w) := gaps_full g (by omega)
theorem gapsL_0 (g : Gok N w s) : gapsL N w 0 = [N] := by
  have e : setI (tipsL N w 0 1) = [0] := by
    show setI [(0 + ((0 : Nat) : Int) * w) % N] = _
    simp [setI, insU]
  show gapsOf N (setI (tipsL N w 0 1)) = _
  rw [e]
  unfold gapsOf
  rw [stepsL_1, lastI_1]
  simp
theorem gapsL_sum (g : Gok N w s) {a : Int} (h : 0 ≤ a) : (gapsL N w a).sum = N := gapsOf_sum (tips0_ne (by omega))
theorem gapsL_ne {a : Int} : gapsL N w a ≠ [] := gapsOf_ne
theorem gapsL_ge (g : Gok N w s) {a : Int} (h : 0 ≤ a) : ∀ d ∈ gapsL N w a, gcI N w ≤ d := fun d hd => (gaps_dvd g (by omega) hd).2.2
end
/-! the same, by turns -/
theorem zip_steps : ∀ l : List Int, (l.zip (l.drop 1)).map (fun x => x.2 - x.1) = stepsL l
  | [] => rfl
  | [_] => rfl
  | x :: y :: r => by
    have := zip_steps (y :: r)
    rw [stepsL_2, List.drop_succ_cons, List.drop_zero, List.zip_cons_cons, List.map_cons]
    rw [List.drop_succ_cons, List.drop_zero] at this
    rw [this]
theorem zip_turn {N : Int} {f : Int × Int → Int} (hf : ∀ a b : Int, f (a, b) = (b - a - 1) % N + 1) (hN : 0 < N) : ∀ (h : Int) (l : List Int), l ≠ [] → l.Pairwise (· < ·) → (∀ x ∈ l, h ≤ x ∧ x < h + N) → (l.zip (l.drop 1 ++ [h])).map f = stepsL l ++ [h + N - lastI l]
  | _, [], hl, _, _ => absurd rfl hl
  | h, [x], _, _, hb => by
    have b := hb x List.mem_cons_self
    show [f (x, h)] = [h + N - x]
    rw [hf, show h - x - 1 = (h + N - x - 1) + N * (-1) by omega, Int.add_mul_emod_self_left, Int.emod_eq_of_lt (by omega) (by omega)]
    congr 1
    omega
  | h, x :: y :: r, _, hp, hb => by
    obtain ⟨h1, h2⟩ := List.pairwise_cons.mp hp
    have b := hb x List.mem_cons_self
    have b2 := hb y (List.mem_cons_of_mem _ List.mem_cons_self)
    have l := h1 y List.mem_cons_self
    have := zip_turn hf hN h (y :: r) (by simp) h2 fun z hz => hb z (List.mem_cons_of_mem _ hz)
    rw [List.drop_succ_cons, List.drop_zero] at this
    rw [stepsL_2, lastI_2, List.drop_succ_cons, List.drop_zero]
    show f (x, y) :: ((y :: r).zip (r ++ [h])).map f = _
    rw [this, hf, Int.emod_eq_of_lt (by omega) (by omega)]
    congr 1
    omega
theorem turn_gaps {N : Int} {f : Int × Int → Int} (hf : ∀ a b : Int, f (a, b) = (b - a - 1) % N + 1) (hN : 0 < N) {l : List Int} (hl : l ≠ []) (hp : l.Pairwise (· < ·)) (hb : ∀ x ∈ l, 0 ≤ x ∧ x < N) : (l.zip (l.drop 1 ++ l.take 1)).map f = gapsOf N l := by
  cases l with
  | nil => exact absurd rfl hl
  | cons h r =>
    have bh := hb h List.mem_cons_self
    unfold gapsOf
    rw [List.headD_cons]
    refine zip_turn hf hN h (h :: r) hl hp fun x hx => ?_
    have := hb x hx
    rcases List.mem_cons.mp hx with rfl | hx
    · omega
    · have := (List.pairwise_cons.mp hp).1 x hx
      omega

/-! ### wheelcurves/gaps.py: what the mirrors give -/
theorem insU_le (x : Int) : ∀ l : List Int, (insU x l).length ≤ l.length + 1
  | [] => by simp [insU]
  | y :: r => by
    unfold insU
    split
    · simp
    · split
      · simp
      · have := insU_le x r
        simp only [List.length_cons]
        omega
theorem setI_le : ∀ l : List Int, (setI l).length ≤ l.length
  | [] => Nat.le_refl _
  | x :: r => by
    have := setI_le r
    have := insU_le x (setI r)
    show (insU x (setI r)).length ≤ r.length + 1
    omega
theorem hIx_hd {l : List Int} (h : l ≠ []) : hIx (.list (l.map .int)) (.int 0) = .ok (.int (l.headD 0)) := by
  cases l with
  | nil => exact absurd rfl h
  | cons x r => exact hIx_lst (L2.atI_nat (j := 0) rfl)
theorem hMax1_i {ns : List Int} (h : ns ≠ []) : hMax1 [.list (ns.map .int)] = .ok (.int (maxI ns)) := by
  cases ns with
  | nil => exact absurd rfl h
  | cons x r =>
    unfold hMax1
    dsimp only
    rw [intsOf_map]
theorem hMin1_i {ns : List Int} (h : ns ≠ []) : hMin1 [.list (ns.map .int)] = .ok (.int (minI ns)) := by
  cases ns with
  | nil => exact absurd rfl h
  | cons x r =>
    unfold hMin1
    dsimp only
    rw [intsOf_map]
theorem hCount_i {ns : List Int} {k : Int} : hCount (ns.map .int) [.int k] = .ok (.int (ns.count k : Nat)) := by
  unfold hCount
  dsimp only
  rw [intsOf_map]
section
variable {N w st t a : Int} {s : Str}
theorem tips0_len (g : Gok N w s) {n : Nat} : (setI (tipsL N w 0 n)).length ≤ 150 := by
  have pb := pet_bd g
  rw [tipsL_set_len g]
  omega
theorem gapsL_len (g : Gok N w s) : (gapsL N w a).length ≤ 151 := by
  by_cases h : setI (tipsL N w 0 (a + 1).toNat) = []
  · unfold gapsL
    rw [h]
    simp [gapsOf, stepsL]
  · unfold gapsL
    rw [gapsOf_len h]
    have := tips0_len g (n := (a + 1).toNat)
    omega
/-- each gap, how often -/
def kindsL (l : List Int) : List (Int × Int) := (setI l).map fun x => (x, ((l.count x : Nat) : Int))
/-- no gap above a bound -/
def fitsG (N w b : Int) (k : Nat) : Bool := decide (maxI (gapsL N w k) ≤ b)
theorem fits_iff {b : Int} {k : Nat} : fitsG N w b k = true ↔ maxI (gapsL N w k) ≤ b := decide_eq_true_iff
/-- the first number of arcs that fits -/
theorem fits_ex (g : Gok N w s) {b : Int} (hb : gcI N w ≤ b) : ∃ J : Nat, (J : Int) < petI N w ∧ fitsG N w b J = true ∧ ∀ i : Nat, i < J → fitsG N w b i = false := by
  have pb := pet_bd g
  have h : fitsG N w b ((petI N w).toNat - 1) = true := by
    rw [fits_iff, gapsL_full g (by omega)]
    have := (maxI_spec (ns := List.replicate (petI N w).toNat (gcI N w)) (by
      intro z
      have := congrArg List.length z
      rw [List.length_replicate] at this
      simp at this
      omega)).1
    have := List.eq_of_mem_replicate this
    omega
  have key : ∀ n : Nat, fitsG N w b n = true → ∃ J : Nat, J ≤ n ∧ fitsG N w b J = true ∧ ∀ i : Nat, i < J → fitsG N w b i = false := by
    intro n
    induction n using Nat.strongRecOn with
    | ind n ih =>
      intro hn
      by_cases c : ∃ i, i < n ∧ fitsG N w b i = true
      · obtain ⟨i, i1, i2⟩ := c
        obtain ⟨J, j1, j2, j3⟩ := ih i i1 i2
        exact ⟨J, by omega, j2, j3⟩
      · refine ⟨n, Nat.le_refl _, hn, fun i hi => ?_⟩
        cases q : fitsG N w b i with
        | false => rfl
        | true => exact absurd ⟨i, hi, q⟩ c
  obtain ⟨J, j1, j2, j3⟩ := key _ h
  exact ⟨J, by omega, j2, j3⟩
theorem fits_none (g : Gok N w s) {b : Int} (hb : b < gcI N w) (k : Nat) : fitsG N w b k = false := by
  unfold fitsG
  refine decide_eq_false fun h => ?_
  have := gapsL_ge g (show (0 : Int) ≤ k by omega) _ (maxI_spec (gapsL_ne (N := N) (w := w) (a := (k : Int)))).1
  omega
/-- the numbers of arcs with even gaps -/
def evenL (N w : Int) : List Int := ((List.range (petI N w).toNat).filter fun k => decide ((setI (gapsL N w (k : Nat))).length = 1)).map fun k => ((k : Nat) : Int)
end

/-! ### wheelcurves/cover.py -/
/-- arcs over the space behind tooth x, of W steps in all -/
def covI (N st W x : Int) : Int := W / N + (if (x - st) % N < W % N then 1 else 0)
def covP (N st q : Int) (k : Nat) : List Int := (List.range N.toNat).map fun x : Nat => q + (if ((x : Int) - st) % N < (k : Int) then 1 else 0)
def covL (N w st a : Int) : List Int := (List.range N.toNat).map fun x : Nat => covI N st (a * w) x
theorem repD_one {d : Dt} (n : Nat) : repD [d] n = List.replicate n d := by
  unfold repD
  induction n with
  | zero => rfl
  | succ n ih => rw [List.replicate_succ, List.flatten_cons, ih, List.replicate_succ] <;> rfl
theorem hRep_1 {d : Dt} {k : Int} (h : -9223372036854775808 ≤ k ∧ k < 9223372036854775808 ∧ [d].length * k.toNat ≤ 100000) : hRep (.list [d]) (.int k) = .ok (.list (List.replicate k.toNat d)) := (if_pos h).trans (by rw [repD_one])
section
variable {N w st : Int} {s : Str}
theorem covP_zero {q : Int} (hN : 0 < N) : covP N st q 0 = List.replicate N.toNat q := by
  unfold covP
  rw [List.eq_replicate_iff]
  refine ⟨by simp, fun b hb => ?_⟩
  obtain ⟨x, _, rfl⟩ := List.mem_map.mp hb
  have := Int.emod_nonneg ((x : Int) - st) (show N ≠ 0 by omega)
  rw [if_neg (by omega)]
  omega
theorem covP_end {a : Int} (hN : 0 < N) : covP N st (a * w / N) (a * w % N).toNat = covL N w st a := by
  have := Int.emod_nonneg (a * w) (show N ≠ 0 by omega)
  unfold covP covL covI
  rw [Int.toNat_of_nonneg this]
theorem mod_at {x k : Int} (hN : 0 < N) (x0 : 0 ≤ x) (x1 : x < N) (k0 : 0 ≤ k) (k1 : k < N) : (x - st) % N = k ↔ x = (st + k) % N := by
  constructor
  · intro h
    rw [← h, Int.add_emod, Int.emod_emod, ← Int.add_emod, show st + (x - st) = x by omega, Int.emod_eq_of_lt x0 x1]
  · intro h
    rw [h, Int.sub_emod, Int.emod_emod, ← Int.sub_emod, show st + k - st = k by omega, Int.emod_eq_of_lt k0 k1]
theorem covP_len {q : Int} {k : Nat} : (covP N st q k).length = N.toNat := by simp [covP]
theorem covP_succ {q : Int} {k : Nat} (hN : 0 < N) (hk : (k : Int) < N) : (covP N st q k).set ((st + k) % N).toNat ((covP N st q k).getD ((st + k) % N).toNat 0 + 1) = covP N st q (k + 1) := by
  have b0 := Int.emod_nonneg (st + k) (show N ≠ 0 by omega)
  have b1 := Int.emod_lt_of_pos (st + k) hN
  apply List.ext_getElem?
  intro j
  have hj : j < N.toNat ∨ N.toNat ≤ j := by omega
  rcases hj with hj | hj
  · have e1 : ∀ k' : Nat, (covP N st q k')[j]? = some (q + (if ((j : Int) - st) % N < (k' : Int) then 1 else 0)) := fun k' => by
      unfold covP
      rw [List.getElem?_map, List.getElem?_range hj]
      rfl
    by_cases e : ((st + k) % N).toNat = j
    · subst e
      rw [List.getElem?_set_self (by rw [covP_len]; exact hj), e1, List.getD_eq_getElem?_getD, e1]
      have := (mod_at (st := st) (x := (((st + k) % N).toNat : Int)) (k := k) hN (by omega) (by omega) (by omega) hk).mpr (by omega)
      rw [this, if_neg (by omega), if_pos (by omega)]
      show some (q + 0 + 1) = _
      congr 1
      omega
    · rw [List.getElem?_set_ne e, e1, e1]
      have h1 : ((j : Int) - st) % N ≠ k := fun h => e (by
        have := (mod_at (st := st) (x := (j : Int)) (k := k) hN (by omega) (by omega) (by omega) hk).mp h
        omega)
      by_cases c : ((j : Int) - st) % N < (k : Int)
      · rw [if_pos c, if_pos (by omega)]
      · rw [if_neg c, if_neg (by omega)]
  · rw [List.getElem?_eq_none (by rw [List.length_set, covP_len]; exact hj), List.getElem?_eq_none (by rw [covP_len]; exact hj)]
theorem sAugI_e {i : Nat} {e v : MP} {ρ : MEnv} : sAugI i e v ρ = ownC (at_ ρ i) fun ds => ofO (e ρ) ρ fun k => ofO (hIx (.list ds) k) ρ fun _ => ofO (v ρ) ρ fun d => ownTo i ρ (augD ds k d) := rfl
theorem hIx_ns {ns : List Int} {j : Int} (h0 : 0 ≤ j) (h1 : j < ns.length) : hIx (.list (ns.map .int)) (.int j) = .ok (.int (ns.getD j.toNat 0)) := by
  obtain ⟨m, rfl⟩ : ∃ m : Nat, j = (m : Int) := ⟨j.toNat, by omega⟩
  refine hIx_lst (L2.atI_nat ?_)
  rw [List.getElem?_map, List.getD_eq_getElem?_getD, Int.toNat_natCast, List.getElem?_eq_getElem (by omega)]
  rfl
theorem augD_i {ns : List Int} {j v : Int} (h0 : 0 ≤ j) (h1 : j < ns.length) : augD (ns.map .int) (.int j) (.int v) = .ok ((ns.set j.toNat (ns.getD j.toNat 0 + v)).map .int) := by
  have hj : j.toNat < ns.length := by omega
  have e : hIx (.list (ns.map .int)) (.int j) = .ok (.int (ns.getD j.toNat 0)) := by
    obtain ⟨m, rfl⟩ : ∃ m : Nat, j = (m : Int) := ⟨j.toNat, by omega⟩
    refine hIx_lst (L2.atI_nat ?_)
    rw [List.getElem?_map, List.getD_eq_getElem?_getD, Int.toNat_natCast, List.getElem?_eq_getElem (by omega)]
    rfl
  unfold augD
  rw [e, O.bind_ok, hAdd_i, O.bind_ok]
  unfold setD
  dsimp only
  have e2 : L2.ixN (ns.map PyData.int).length j = some j.toNat := by
    rw [List.length_map]
    have := Evl.ixN_nat hj
    rwa [Int.toNat_of_nonneg h0] at this
  rw [e2]
  dsimp only
  rw [if_pos noLst_int, List.map_set]
theorem r_cover_of {a : Int} (g : Gok N w s) (a0 : 0 ≤ a) (a1 : a ≤ 1000) : m_cover_of [gear N w s, .int st, .int a] = .ok (.new ((covL N w st a).map .int)) := by
  have n3 := g.n3
  have n150 := g.n150
  have w2 := g.w2
  have w150 := g.w150
  have hN : 0 < N := by omega
  have m0 := Int.emod_nonneg (a * w) (show N ≠ 0 by omega)
  have m1 := Int.emod_lt_of_pos (a * w) hN
  have own : gOwn (.list (List.replicate N.toNat (PyData.int (a * w / N)))) = .ok (List.replicate N.toNat (PyData.int (a * w / N))) := by
    have := @gOwn_ints (List.replicate N.toNat (a * w / N))
    rwa [List.map_replicate] at this
  simp only [evs, sSeq_e, Nat.reduceSub, m_cover_of, s_cover_of, hMulR_i (show CMulB w by omega), hDiv_i (show 0 < N ∧ N < 1073741824 by omega), hRep_1 (d := .int (a * w / N)) (k := N) (by rw [List.length_singleton]; omega), own, hMod_i hN, rng1K_i (show -10000000 ≤ a * w % N ∧ a * w % N ≤ 10000000 by omega), rngD0]
  have key := forL_fn (dt := fun i : Nat => PyData.int (i : Int)) (g := .one 5) (b := (sAugI 4 (pOp hMod (pOp hAdd (pVar 1) (pVar 5)) (pOp hIx (pVar 0) (pC (PyData.int 0)))) (pC (PyData.int 1))))
    (fun k => [.val (gear N w s), .val (.int st), .val (.int a), .val (.int (a * w)), .own ((covP N st (a * w / N) k).map .int), if k = 0 then .no else .val (.int ((k : Int) - 1))]) (List.range (a * w % N).toNat) 0 (fun j x hx => by
      obtain ⟨hj, e⟩ := List.getElem?_eq_some_iff.mp hx
      rw [List.getElem_range] at e
      subst e
      rw [List.length_range] at hj
      refine ⟨_, rfl, ?_⟩
      have b0 := Int.emod_nonneg (st + (j : Int)) (show N ≠ 0 by omega)
      have b1 := Int.emod_lt_of_pos (st + (j : Int)) hN
      have ix := hIx_ns (ns := covP N st (a * w / N) (0 + j)) b0 (by rw [covP_len]; omega)
      have ag := augD_i (ns := covP N st (a * w / N) (0 + j)) (v := 1) b0 (by rw [covP_len]; omega)
      rw [Nat.zero_add] at ix ag ⊢
      rw [covP_succ hN (by omega)] at ag
      simp only [evs, sSeq_e, Nat.reduceSub, sAugI_e, ix, ag, hMod_i hN]
      rw [if_neg (by omega), show ((j + 1 : Nat) : Int) - 1 = (j : Int) by omega])
  rw [Nat.zero_add, List.length_range, covP_end hN, covP_zero hN, List.map_replicate, if_pos rfl] at key
  rw [key]
  simp only [evs, sSeq_e, Nat.reduceSub]
theorem r_cover {a : Int} (g : Gok N w s) (s0 : 0 ≤ st) (s1 : st < N) (a0 : 0 ≤ a) (a1 : a ≤ 150) : m_cover [gear N w s, .int st, .int a] = .ok (.new ((covL N w st a).map .int)) := by
  simp only [evs, sSeq_e, Nat.reduceSub, m_cover, s_cover, r_check_gear g, r_check_tooth s0 s1, r_check_arcs a0 a1, r_cover_of g (st := st) a0 (show a ≤ 1000 by omega)]
/-- the arcs over a space that lies s0 steps from the start, W steps in all -/
def ovC (N s0 W : Int) : Nat := ((W - s0 + N - 1) / N).toNat
def ovP (N w s0 : Int) (n : Nat) : List Int := (List.range n).map fun j : Nat => (s0 + j * N) / w
def ovL (N w s0 W : Int) : List Int := ovP N w s0 (ovC N s0 W)
theorem ovC_iff {s0 W : Int} (hN : 0 < N) (j : Nat) : j < ovC N s0 W ↔ s0 + j * N < W := by
  unfold ovC
  constructor
  · intro h
    have h1 : ((j : Int) + 1) ≤ (W - s0 + N - 1) / N := by omega
    have := (Int.le_ediv_iff_mul_le hN).mp h1
    rw [Int.add_mul] at this
    omega
  · intro h
    have : ((j : Int) + 1) ≤ (W - s0 + N - 1) / N := (Int.le_ediv_iff_mul_le hN).mpr (by rw [Int.add_mul]; omega)
    omega
theorem ovP_succ {s0 : Int} {n : Nat} : ovP N w s0 (n + 1) = ovP N w s0 n ++ [(s0 + n * N) / w] := by
  unfold ovP
  rw [List.range_succ, List.map_append] <;> rfl
theorem ovP_len {s0 : Int} {n : Nat} : (ovP N w s0 n).length = n := by simp [ovP]
theorem wh_over {T' : MB} {B' : MS} {W s0 : Int} {ρ : List Int → Int → MEnv} (hN : 0 < N) (hT : ∀ ns k, T' (ρ ns k) = .ok (decide (k < W))) (hB : ∀ ns k, ns.length < 100000 → B' (ρ ns k) = .ret (.nx (ρ (ns ++ [k / w]) (k + N)))) (hC : ovC N s0 W < 100000) :
    ∀ n i : Nat, i ≤ ovC N s0 W → ovC N s0 W - i < n → whN T' B' n (ρ (ovP N w s0 i) (s0 + i * N)) = .ret (.nx (ρ (ovL N w s0 W) (s0 + (ovC N s0 W : Nat) * N)))
  | 0, _, _, h => absurd h (Nat.not_lt_zero _)
  | n + 1, i, hi, h => by
    by_cases e : i = ovC N s0 W
    · refine (wh_end (by
        rw [hT]
        have := (not_congr (ovC_iff (s0 := s0) (W := W) hN i)).mp (by omega)
        rw [decide_eq_false this])).trans ?_
      rw [e]
      rfl
    · rw [wh_go (by
        rw [hT, decide_eq_true ((ovC_iff hN i).mp (by omega))]) (hB _ _ (by rw [ovP_len]; omega)), ← ovP_succ, show s0 + (i : Int) * N + N = s0 + ((i + 1 : Nat) : Int) * N by rw [Int.natCast_add, Int.add_mul]; omega]
      exact wh_over hN hT hB hC n (i + 1) (by omega) (by omega)
theorem r_arcs_over {a t : Int} (g : Gok N w s) (s0 : 0 ≤ st) (s1 : st < N) (a0 : 0 ≤ a) (a1 : a ≤ 150) (t0 : 0 ≤ t) (t1 : t < N) : m_arcs_over [gear N w s, .int st, .int a, .int t] = .ok (.new ((ovL N w ((t - st) % N) (a * w)).map .int)) := by
  have n3 := g.n3
  have n150 := g.n150
  have w2 := g.w2
  have w150 := g.w150
  have hN : 0 < N := by omega
  have m0 := Int.emod_nonneg (t - st) (show N ≠ 0 by omega)
  have aw : a * w ≤ 22500 := by
    have := Int.mul_le_mul a1 w150 (by omega) (by omega)
    omega
  have hC : ovC N ((t - st) % N) (a * w) < 100000 := by
    unfold ovC
    have : (a * w - (t - st) % N + N - 1) / N < 100000 := Int.ediv_lt_of_lt_mul hN (by omega)
    omega
  have key := fun T' B' hT hB => wh_over (T' := T') (B' := B') (w := w) (W := a * w) (s0 := (t - st) % N) (ρ := fun ns k => [.val (gear N w s), .val (.int st), .val (.int a), .val (.int t), .own (ns.map .int), .val (.int k)]) hN hT hB hC 1000000 0 (Nat.zero_le _) (by omega)
  simp only [evs, sSeq_e, Nat.reduceSub, m_arcs_over, s_arcs_over, r_check_gear g, r_check_tooth s0 s1, r_check_tooth t0 t1, r_check_arcs a0 a1, gOwn_nil, hMod_i hN, sWhile]
  rw [show ((t - st) % N + ((0 : Nat) : Int) * N) = (t - st) % N by omega] at key
  rw [show ([] : List Dt) = (ovP N w ((t - st) % N) 0).map .int from rfl, key]
  · simp only [evs, sSeq_e, Nat.reduceSub]
  · intro ns k
    simp only [evs, sSeq_e, Nat.reduceSub, hMulR_i (show CMulB w by omega)]
  · intro ns k hl
    have h4 := gApp_e (ds := ns.map PyData.int) (d := .int (k / w)) ⟨noLst_int, by rw [List.length_map]; exact hl⟩
    simp only [evs, sSeq_e, Nat.reduceSub, hDiv_i (show 0 < w ∧ w < 1073741824 by omega), h4]
    rw [List.map_append]
    rfl
end

/-! ### plain: arcs over the spaces -/
section
variable {N w st : Int} {s : Str}
theorem ovC_cov {s0 W : Int} (hN : 0 < N) (h0 : 0 ≤ s0) (h1 : s0 < N) (hW : 0 ≤ W) : ((ovC N s0 W : Nat) : Int) = W / N + (if s0 < W % N then 1 else 0) := by
  have r0 := Int.emod_nonneg W (show N ≠ 0 by omega)
  have r1 := Int.emod_lt_of_pos W hN
  have e := Int.mul_ediv_add_emod W N
  have q0 := Int.ediv_nonneg hW (show 0 ≤ N by omega)
  have key : (W - s0 + N - 1) / N = W / N + (if s0 < W % N then 1 else 0) := by
    generalize W % N = r at *
    generalize W / N = q at *
    rw [← e, show N * q + r - s0 + N - 1 = (r - s0 + N - 1) + q * N by rw [Int.mul_comm]; omega, Int.add_mul_ediv_right _ _ (by omega)]
    by_cases c : s0 < r
    · rw [if_pos c, show r - s0 + N - 1 = (r - s0 - 1) + 1 * N by omega, Int.add_mul_ediv_right _ _ (by omega), Int.ediv_eq_zero_of_lt (by omega) (by omega)]
      omega
    · rw [if_neg c, Int.ediv_eq_zero_of_lt (by omega) (by omega)]
      omega
  unfold ovC
  rw [key]
  split <;> omega
theorem covI_ov {W x : Int} (hN : 0 < N) (hW : 0 ≤ W) : covI N st W x = ((ovC N ((x - st) % N) W : Nat) : Int) := by
  rw [ovC_cov hN (Int.emod_nonneg _ (by omega)) (Int.emod_lt_of_pos _ hN) hW]
  rfl
def dueL (N st : Int) (m : Nat) : List Int := (List.range N.toNat).map fun x : Nat => ((ovC N (((x : Int) - st) % N) (m : Int) : Nat) : Int)
def nosL (N w st : Int) (m : Nat) : List (List Dt) := (List.range N.toNat).map fun x : Nat => (ovL N w (((x : Int) - st) % N) (m : Int)).map .int
theorem dueL_len {m : Nat} : (dueL N st m).length = N.toNat := by simp [dueL]
theorem nosL_len {m : Nat} : (nosL N w st m).length = N.toNat := by simp [nosL]
theorem dueL_at {m x : Nat} (h : x < N.toNat) : (dueL N st m)[x]? = some ((ovC N (((x : Int) - st) % N) (m : Int) : Nat) : Int) := by
  unfold dueL
  rw [List.getElem?_map, List.getElem?_range h] <;> rfl
theorem nosL_at {m x : Nat} (h : x < N.toNat) : (nosL N w st m)[x]? = some ((ovL N w (((x : Int) - st) % N) (m : Int)).map .int) := by
  unfold nosL
  rw [List.getElem?_map, List.getElem?_range h] <;> rfl
/-- one more step -/
theorem ovC_succ {s0 : Int} {m : Nat} (hN : 0 < N) (h0 : 0 ≤ s0) (h1 : s0 < N) : ((m : Int) % N = s0 → ovC N s0 ((m + 1 : Nat) : Int) = ovC N s0 m + 1 ∧ s0 + (ovC N s0 m : Nat) * N = m) ∧ ((m : Int) % N ≠ s0 → ovC N s0 ((m + 1 : Nat) : Int) = ovC N s0 m) := by
  have e := Int.mul_ediv_add_emod (m : Int) N
  have q0 := Int.ediv_nonneg (show (0 : Int) ≤ m by omega) (show 0 ≤ N by omega)
  have up : ∀ j : Nat, j < ovC N s0 ((m + 1 : Nat) : Int) ↔ j < ovC N s0 m ∨ s0 + (j : Int) * N = m := fun j => by
    rw [ovC_iff hN, ovC_iff hN]
    omega
  constructor
  · intro h
    obtain ⟨q, hq⟩ := Int.eq_ofNat_of_zero_le q0
    have at_q : s0 + (q : Int) * N = m := by rw [← hq, Int.mul_comm]; omega
    have lo : ovC N s0 m = q := by
      have a : ¬ q < ovC N s0 m := fun z => by
        have := (ovC_iff hN q).mp z
        omega
      have b : ∀ j, j < q → j < ovC N s0 m := fun j hj => (ovC_iff hN j).mpr (by
        have : ((j : Int) + 1) * N ≤ (q : Int) * N := Int.mul_le_mul_of_nonneg_right (by omega) (by omega)
        rw [Int.add_mul] at this
        omega)
      rcases Nat.lt_trichotomy (ovC N s0 m) q with z | z | z
      · exact absurd (b _ z) (Nat.lt_irrefl _)
      · exact z
      · exact absurd z a
    refine ⟨?_, by rw [lo]; exact at_q⟩
    have a : q < ovC N s0 ((m + 1 : Nat) : Int) := (up q).mpr (.inr at_q)
    have b : ¬ q + 1 < ovC N s0 ((m + 1 : Nat) : Int) := fun z => by
      have := (ovC_iff hN (q + 1)).mp z
      rw [Int.natCast_add, Int.add_mul] at this
      omega
    omega
  · intro h
    have no : ∀ j : Nat, s0 + (j : Int) * N ≠ m := fun j hj => h (by rw [← hj, Int.add_mul_emod_self_right, Int.emod_eq_of_lt h0 h1])
    have : ∀ j : Nat, j < ovC N s0 ((m + 1 : Nat) : Int) ↔ j < ovC N s0 m := fun j => (up j).trans ⟨fun z => z.resolve_right (no j), .inl⟩
    have a := this (ovC N s0 m)
    have b := this (ovC N s0 ((m + 1 : Nat) : Int))
    omega
/-- the tooth that is met -/
theorem met_iff {x m : Nat} (hN : 0 < N) (hx : (x : Int) < N) : ((m : Int) % N = ((x : Int) - st) % N) ↔ (x : Int) = (st + m) % N := by
  have b0 := Int.emod_nonneg ((m : Int)) (show N ≠ 0 by omega)
  have b1 := Int.emod_lt_of_pos ((m : Int)) hN
  have := mod_at (st := st) (x := (x : Int)) (k := (m : Int) % N) hN (by omega) hx b0 b1
  rw [Int.add_emod_emod] at this
  exact ⟨fun h => this.mp h.symm, fun h => (this.mpr h).symm⟩
theorem dueL_succ {m : Nat} (hN : 0 < N) : (dueL N st m).set ((st + m) % N).toNat ((dueL N st m).getD ((st + m) % N).toNat 0 + 1) = dueL N st (m + 1) := by
  have b0 := Int.emod_nonneg (st + m) (show N ≠ 0 by omega)
  have b1 := Int.emod_lt_of_pos (st + m) hN
  apply List.ext_getElem?
  intro j
  rcases Nat.lt_or_ge j N.toNat with hj | hj
  · have h0 := Int.emod_nonneg ((j : Int) - st) (show N ≠ 0 by omega)
    have h1 := Int.emod_lt_of_pos ((j : Int) - st) hN
    have up := ovC_succ (s0 := ((j : Int) - st) % N) (m := m) hN h0 h1
    have mi := met_iff (st := st) (x := j) (m := m) hN (by omega)
    by_cases e : ((st + m) % N).toNat = j
    · rw [e, List.getElem?_set_self (by rw [dueL_len]; exact hj), dueL_at hj, List.getD_eq_getElem?_getD, dueL_at hj, (up.1 (mi.mpr (by omega))).1, Int.natCast_add]
      rfl
    · rw [List.getElem?_set_ne e, dueL_at hj, dueL_at hj, up.2 fun z => e (by have := mi.mp z; omega)]
  · rw [List.getElem?_eq_none (by rw [List.length_set, dueL_len]; exact hj), List.getElem?_eq_none (by rw [dueL_len]; exact hj)]
theorem nosL_succ {m : Nat} (hN : 0 < N) : (nosL N w st m).set ((st + m) % N).toNat ((nosL N w st m).getD ((st + m) % N).toNat [] ++ [.int ((m : Int) / w)]) = nosL N w st (m + 1) := by
  have b0 := Int.emod_nonneg (st + m) (show N ≠ 0 by omega)
  have b1 := Int.emod_lt_of_pos (st + m) hN
  apply List.ext_getElem?
  intro j
  rcases Nat.lt_or_ge j N.toNat with hj | hj
  · have h0 := Int.emod_nonneg ((j : Int) - st) (show N ≠ 0 by omega)
    have h1 := Int.emod_lt_of_pos ((j : Int) - st) hN
    have up := ovC_succ (s0 := ((j : Int) - st) % N) (m := m) hN h0 h1
    have mi := met_iff (st := st) (x := j) (m := m) hN (by omega)
    by_cases e : ((st + m) % N).toNat = j
    · obtain ⟨u1, u2⟩ := up.1 (mi.mpr (by omega))
      rw [e, List.getElem?_set_self (by rw [nosL_len]; exact hj), nosL_at hj, List.getD_eq_getElem?_getD, nosL_at hj]
      unfold ovL
      rw [u1, ovP_succ, List.map_append, u2]
      rfl
    · rw [List.getElem?_set_ne e, nosL_at hj, nosL_at hj]
      unfold ovL
      rw [up.2 fun z => e (by have := mi.mp z; omega)]
  · rw [List.getElem?_eq_none (by rw [List.length_set, nosL_len]; exact hj), List.getElem?_eq_none (by rw [nosL_len]; exact hj)]
theorem ovC_le {s0 : Int} {m : Nat} (hN : 0 < N) (h0 : 0 ≤ s0) : ovC N s0 m ≤ m := by
  have : ¬ m < ovC N s0 m := fun z => by
    have := (ovC_iff hN m).mp z
    have : (m : Int) * 1 ≤ (m : Int) * N := Int.mul_le_mul_of_nonneg_left (by omega) (by omega)
    omega
  omega
theorem ovC_zero {s0 : Int} (hN : 0 < N) (h0 : 0 ≤ s0) : ovC N s0 0 = 0 := by
  have : ¬ 0 < ovC N s0 0 := fun z => by
    have := (ovC_iff hN 0).mp z
    omega
  omega
theorem dueL_zero (hN : 0 < N) : dueL N st 0 = List.replicate N.toNat 0 := by
  rw [List.eq_replicate_iff]
  refine ⟨dueL_len, fun b hb => ?_⟩
  obtain ⟨x, _, rfl⟩ := List.mem_map.mp hb
  rw [show ((0 : Nat) : Int) = 0 from rfl, ovC_zero hN (Int.emod_nonneg _ (by omega))]
  rfl
theorem nosL_zero (hN : 0 < N) : nosL N w st 0 = List.replicate N.toNat [] := by
  rw [List.eq_replicate_iff]
  refine ⟨nosL_len, fun b hb => ?_⟩
  obtain ⟨x, _, rfl⟩ := List.mem_map.mp hb
  unfold ovL
  rw [show ((0 : Nat) : Int) = 0 from rfl, ovC_zero hN (Int.emod_nonneg _ (by omega))]
  rfl
theorem covL_due {a : Int} (hN : 0 < N) {m : Nat} (h : a * w = m) : covL N w st a = dueL N st m := by
  unfold covL dueL
  refine List.map_congr_left fun x _ => ?_
  rw [covI_ov hN (by omega), h]
theorem sum_set : ∀ {l : List Int} {i : Nat} {v : Int}, i < l.length → (l.set i (l.getD i 0 + v)).sum = l.sum + v
  | a :: l, 0, v, _ => by
    show (a + v) + l.sum = a + l.sum + v
    omega
  | a :: l, i + 1, v, h => by
    have := sum_set (l := l) (i := i) (v := v) (by simpa using h)
    show a + (l.set i (l.getD i 0 + v)).sum = a + l.sum + v
    omega
theorem dueL_sum (hN : 0 < N) : ∀ m : Nat, (dueL N st m).sum = m
  | 0 => by
    rw [dueL_zero hN]
    induction N.toNat with
    | zero => rfl
    | succ n ih => rw [List.replicate_succ, List.sum_cons, ih] <;> rfl
  | m + 1 => by
    have b0 := Int.emod_nonneg (st + m) (show N ≠ 0 by omega)
    have b1 := Int.emod_lt_of_pos (st + m) hN
    rw [← dueL_succ hN, sum_set (by rw [dueL_len]; omega), dueL_sum hN m]
    omega
end
theorem sLL_e {i : Nat} {src : MI} {ρ : MEnv} : sLL i src ρ = ofO (src ρ) ρ fun ds => if ds.length ≤ 100000 then .ret (.nx (ρ.set i (.ll (List.replicate ds.length [])))) else .no := rfl
theorem sLLApp_e {i : Nat} {e b : MP} {ρ : MEnv} : sLLApp i e b ρ = llC (at_ ρ i) fun dss => ofO (e ρ) ρ fun k => ofO (ixL dss.length k) ρ fun j => ofO (b ρ) ρ fun d => ofO (llAdd dss j d) ρ fun es => .ret (.nx (ρ.set i (.ll es))) := rfl
theorem pLLx_e {i : Nat} {e : MP} {ρ : MEnv} : pLLx i e ρ = llO (at_ ρ i) fun dss => (e ρ).bind fun k => (ixL dss.length k).bind fun j => .ok (.list (dss.getD j [])) := rfl
theorem sPut_e {i : Nat} {e v : MP} {ρ : MEnv} : sPut i e v ρ = ofO (v ρ) ρ fun d => ownC (at_ ρ i) fun ds => ofO (e ρ) ρ fun k => ownTo i ρ (setD ds d k) := rfl
theorem ixL_i {n : Nat} {k : Int} (h0 : 0 ≤ k) (h1 : k < n) : ixL n (.int k) = .ok k.toNat := by
  obtain ⟨m, rfl⟩ := Int.eq_ofNat_of_zero_le h0
  unfold ixL
  dsimp only
  rw [Evl.ixN_nat (by omega)]
  rfl
theorem setD_i {ns : List Int} {j v : Int} (h0 : 0 ≤ j) (h1 : j < ns.length) : setD (ns.map .int) (.int v) (.int j) = .ok ((ns.set j.toNat v).map .int) := by
  obtain ⟨m, rfl⟩ := Int.eq_ofNat_of_zero_le h0
  unfold setD
  dsimp only
  rw [List.length_map, Evl.ixN_nat (by omega)]
  dsimp only
  rw [if_pos noLst_int, List.map_set]
  rfl
section
variable {N w st : Int} {s : Str}
theorem covL_one {a : Int} (hN : 0 < N) (k : Int) (h : a * w = k * N) : covL N w st a = List.replicate N.toNat k := by
  rw [List.eq_replicate_iff]
  refine ⟨by simp [covL], fun b hb => ?_⟩
  obtain ⟨x, _, rfl⟩ := List.mem_map.mp hb
  have b0 := Int.emod_nonneg ((x : Int) - st) (show N ≠ 0 by omega)
  unfold covI
  rw [h, Int.mul_emod_left, Int.mul_ediv_cancel _ (show N ≠ 0 by omega), if_neg (by omega)]
  omega
theorem covI_bd {W x : Int} : W / N ≤ covI N st W x ∧ covI N st W x ≤ W / N + 1 := by
  unfold covI
  split <;> omega
theorem covL_mem {a y : Int} (h : y ∈ covL N w st a) : a * w / N ≤ y ∧ y ≤ a * w / N + 1 := by
  obtain ⟨x, _, rfl⟩ := List.mem_map.mp h
  exact covI_bd
theorem covL_ne {a : Int} (hN : 0 < N) : covL N w st a ≠ [] := fun z => by
  have := congrArg List.length z
  simp [covL] at this
  omega
theorem covL_mem' {a : Int} {x : Int} (x0 : 0 ≤ x) (x1 : x < N) : covI N st (a * w) x ∈ covL N w st a := by
  obtain ⟨n, rfl⟩ := Int.eq_ofNat_of_zero_le x0
  exact List.mem_map.mpr ⟨n, List.mem_range.mpr (by omega), rfl⟩
/-- arcs that cover all -/
theorem cov_all {c : Int} (hN : 0 < N) (h : N ≤ c * w) : 1 ≤ minI (covL N w st c) := by
  have m := (covL_mem (minI_spec (covL_ne (st := st) (w := w) (a := c) hN)).1).1
  have : 1 ≤ c * w / N := (Int.le_ediv_iff_mul_le hN).mpr (by omega)
  omega
theorem cov_not {c : Int} (hN : 0 < N) (h0 : 0 ≤ c * w) (h : c * w < N) : minI (covL N w st c) ≤ 0 := by
  have b0 := Int.emod_nonneg (st + (N - 1)) (show N ≠ 0 by omega)
  have b1 := Int.emod_lt_of_pos (st + (N - 1)) hN
  have m := (minI_spec (covL_ne (st := st) (w := w) (a := c) hN)).2 _ (covL_mem' b0 b1)
  have e : ((st + (N - 1)) % N - st) % N = N - 1 := (mod_at (st := st) hN b0 b1 (by omega) (by omega)).mpr rfl
  unfold covI at m
  rw [e, Int.ediv_eq_zero_of_lt h0 h, Int.emod_eq_of_lt h0 h, if_neg (by omega)] at m
  omega
theorem covL_sum {a : Int} (hN : 0 < N) (h : 0 ≤ a * w) : (covL N w st a).sum = a * w := by
  obtain ⟨m, hm⟩ := Int.eq_ofNat_of_zero_le h
  rw [covL_due hN hm, dueL_sum hN, hm]
/-- the start moved on by one tooth -/
theorem covL_moved {a : Int} (hN : 0 < N) : (covL N w ((st + 1) % N) a).drop 1 ++ (covL N w ((st + 1) % N) a).take 1 = covL N w st a := by
  have f : ∀ x : Int, covI N ((st + 1) % N) (a * w) (x + 1) = covI N st (a * w) x := fun x => by
    unfold covI
    rw [Int.sub_emod, Int.emod_emod, ← Int.sub_emod, show x + 1 - (st + 1) = x - st by omega]
  obtain ⟨n, hn⟩ : ∃ n, N.toNat = n + 1 := ⟨N.toNat - 1, by omega⟩
  have last : covI N ((st + 1) % N) (a * w) 0 = covI N st (a * w) (n : Int) := by
    rw [← f]
    unfold covI
    rw [Int.sub_emod, show ((n : Int) + 1) = N by omega, Int.sub_emod N, Int.emod_self, Int.zero_emod]
  unfold covL
  rw [hn, List.range_succ_eq_map, List.map_cons]
  show List.map _ (List.map Nat.succ (List.range n)) ++ [_] = _
  rw [← List.range_succ_eq_map, List.range_succ, List.map_append, List.map_map]
  congr 1
  · refine List.map_congr_left fun x _ => ?_
    show covI N ((st + 1) % N) (a * w) (((x + 1 : Nat) : Int)) = _
    rw [Int.natCast_add]
    exact f x
  · show [covI N ((st + 1) % N) (a * w) ((0 : Nat) : Int)] = [_]
    rw [show ((0 : Nat) : Int) = 0 from rfl, last]
/-- all arcs of the closed curve over a space -/
theorem ovC_whole {s0 k : Int} (hN : 0 < N) (h0 : 0 ≤ s0) (h1 : s0 < N) (hk : 0 ≤ k) : ((ovC N s0 (k * N) : Nat) : Int) = k := by
  rw [ovC_cov hN h0 h1 (Int.mul_nonneg hk (by omega)), Int.mul_emod_left, Int.mul_ediv_cancel _ (show N ≠ 0 by omega), if_neg (by omega)]
  omega
theorem ovL_sorted {s0 W : Int} (hN : 0 < N) (hw : 0 < w) : (ovL N w s0 W).Pairwise (· ≤ ·) := by
  unfold ovL ovP
  rw [List.pairwise_map]
  refine List.pairwise_lt_range.imp fun {i j} h => ?_
  refine Int.ediv_le_ediv hw ?_
  have : (i : Int) * N ≤ (j : Int) * N := Int.mul_le_mul_of_nonneg_right (by omega) (by omega)
  omega
theorem ovL_lt {s0 k : Int} (hN : 0 < N) (hw : 0 < w) {y : Int} (h : y ∈ ovL N w s0 (k * w)) : y < k := by
  obtain ⟨j, hj, rfl⟩ := List.mem_map.mp h
  exact Int.ediv_lt_of_lt_mul hw ((ovC_iff hN j).mp (List.mem_range.mp hj))
end
/-! ### the law -/
def bodyI : MS := (sSeq (sPut 5 (pVar 7) (pOp hAdd (pOp hIx (pVar 5) (pVar 7)) (pC (.int 1))))
  (sSeq (sLLApp 6 (pVar 7) (pVar 8))
  (sSet 7 (pFz (pOp hMod (pOp hAdd (pVar 7) (pC (.int 1))) (pOp hIx (pVar 2) (pC (.int 0))))))))
def envK (N w st a : Int) (s : Str) (c0 c1 : Cell) (m : Nat) (c8 c9 : Cell) : MEnv := [c0, c1, .val (gear N w s), .val (.int st), .val (.int a), .own ((dueL N st m).map .int), .ll (nosL N w st m), .val (.int ((st + m) % N)), c8, c9, .no, .no, .no, .no, .no, .no]
section
variable {N w st : Int} {s : Str}
theorem step_one (g : Gok N w s) {a j : Int} {c0 c1 c9 : Cell} {m : Nat} (hm : (m : Int) < 9000) (hj : (m : Int) / w = j) : bodyI (envK N w st a s c0 c1 m (.val (.int j)) c9) = .ret (.nx (envK N w st a s c0 c1 (m + 1) (.val (.int j)) c9)) := by
  have n3 := g.n3
  have w2 := g.w2
  have hN : 0 < N := by omega
  have b0 := Int.emod_nonneg (st + m) (show N ≠ 0 by omega)
  have b1 := Int.emod_lt_of_pos (st + m) hN
  have ix := hIx_ns (ns := dueL N st m) b0 (by rw [dueL_len]; omega)
  have sd := setD_i (ns := dueL N st m) (v := (dueL N st m).getD ((st + m) % N).toNat 0 + 1) b0 (by rw [dueL_len]; omega)
  rw [dueL_succ hN] at sd
  have il := ixL_i (n := (nosL N w st m).length) b0 (by rw [nosL_len]; omega)
  have la : llAdd (nosL N w st m) ((st + m) % N).toNat (.int j) = .ok (nosL N w st (m + 1)) := by
    have hlen : ((nosL N w st m).getD ((st + m) % N).toNat []).length < 100000 := by
      rw [List.getD_eq_getElem?_getD, nosL_at (by omega)]
      show ((ovL N w _ (m : Int)).map PyData.int).length < 100000
      unfold ovL
      rw [List.length_map, ovP_len]
      have := ovC_le (s0 := ((((st + (m : Int)) % N).toNat : Nat) - st : Int) % N) (m := m) hN (Int.emod_nonneg _ (by omega))
      omega
    unfold llAdd
    rw [if_pos ⟨noLst_int, hlen⟩, ← hj, nosL_succ hN]
  have e2 : ((st + (m : Int)) % N + 1) % N = (st + ((m + 1 : Nat) : Int)) % N := by rw [mod_next, show st + (m : Int) + 1 = st + ((m + 1 : Nat) : Int) by omega]
  unfold bodyI envK
  simp only [evs, sSeq_e, Nat.reduceSub, sPut_e, ix, sd, sLLApp_e, llC_ll, il, la, hMod_i hN, e2]
theorem inner (g : Gok N w s) {a : Int} {j : Nat} {c0 c1 c9 : Cell} (hj : (j : Int) < 40) : forL (.one 9) bodyI ((List.range w.toNat).map fun i : Nat => .int (i : Int)) (envK N w st a s c0 c1 (j * w.toNat) (.val (.int (j : Int))) c9) =
    .ret (.nx (envK N w st a s c0 c1 ((j + 1) * w.toNat) (.val (.int (j : Int))) (.val (.int (w - 1))))) := by
  have w2 := g.w2
  have w150 := g.w150
  have key := forL_fn (dt := fun i : Nat => PyData.int (i : Int)) (g := .one 9) (b := bodyI)
    (fun k => envK N w st a s c0 c1 (j * w.toNat + k) (.val (.int (j : Int))) (if k = 0 then c9 else .val (.int ((k : Int) - 1)))) (List.range w.toNat) 0 (fun i x hx => by
      obtain ⟨hi, e⟩ := List.getElem?_eq_some_iff.mp hx
      rw [List.getElem_range] at e
      subst e
      rw [List.length_range] at hi
      refine ⟨_, rfl, ?_⟩
      rw [Nat.zero_add, if_neg (show ¬ (i + 1 = 0) by omega), show ((i + 1 : Nat) : Int) - 1 = (i : Int) by omega]
      have b : j * w.toNat ≤ 39 * w.toNat := Nat.mul_le_mul_right _ (by omega)
      refine step_one (c9 := .val (.int (i : Int))) g (m := j * w.toNat + i) (by omega) ?_
      rw [show ((j * w.toNat + i : Nat) : Int) = (i : Int) + (j : Int) * w by rw [Int.natCast_add, Int.natCast_mul, show ((w.toNat : Nat) : Int) = w by omega]; omega, Int.add_mul_ediv_right _ _ (by omega), Int.ediv_eq_zero_of_lt (by omega) (by omega), Int.zero_add])
  rw [List.length_range, Nat.zero_add, if_pos rfl, Nat.add_zero, if_neg (show ¬ (w.toNat = 0) by omega)] at key
  rw [key, Nat.succ_mul, show ((w.toNat : Nat) : Int) - 1 = w - 1 by omega]
theorem outer (g : Gok N w s) {a : Int} {c0 c1 : Cell} (a0 : 0 ≤ a) (a1 : a ≤ 40) : sFor (iR1 (pVar 4)) (.one 8) (sFor (iR1 (pOp hIx (pVar 2) (pC (.int 1)))) (.one 9) bodyI) (envK N w st a s c0 c1 0 .no .no) =
    .ret (.nx (envK N w st a s c0 c1 (a.toNat * w.toNat) (if a.toNat = 0 then .no else .val (.int (a - 1))) (if a.toNat = 0 then .no else .val (.int (w - 1))))) := by
  have w2 := g.w2
  have w150 := g.w150
  have key := forL_fn (dt := fun i : Nat => PyData.int (i : Int)) (g := .one 8) (b := sFor (iR1 (pOp hIx (pVar 2) (pC (.int 1)))) (.one 9) bodyI)
    (fun k => envK N w st a s c0 c1 (k * w.toNat) (if k = 0 then .no else .val (.int ((k : Int) - 1))) (if k = 0 then .no else .val (.int (w - 1)))) (List.range a.toNat) 0 (fun i x hx => by
      obtain ⟨hi, e⟩ := List.getElem?_eq_some_iff.mp hx
      rw [List.getElem_range] at e
      subst e
      rw [List.length_range] at hi
      refine ⟨_, rfl, ?_⟩
      rw [Nat.zero_add, if_neg (show ¬ (i + 1 = 0) by omega), if_neg (show ¬ (i + 1 = 0) by omega), show ((i + 1 : Nat) : Int) - 1 = (i : Int) by omega]
      show sFor _ _ _ (envK N w st a s c0 c1 (i * w.toNat) (.val (.int (i : Int))) _) = _
      rw [sFor_e, show iR1 (pOp hIx (pVar 2) (pC (.int 1))) (envK N w st a s c0 c1 (i * w.toNat) (.val (.int (i : Int))) (if i = 0 then .no else .val (.int (w - 1)))) = .ok ((List.range w.toNat).map fun i : Nat => .int (i : Int)) by
        unfold envK
        simp only [evs, Nat.reduceSub, rng1K_i (show -10000000 ≤ w ∧ w ≤ 10000000 by omega), rngD0], ofO_ok]
      exact inner g (by omega))
  rw [List.length_range, Nat.zero_add, if_pos rfl, if_pos rfl, Nat.zero_mul, show ((a.toNat : Nat) : Int) - 1 = a - 1 by omega] at key
  rw [sFor_e, show iR1 (pVar 4) (envK N w st a s c0 c1 0 .no .no) = .ok ((List.range a.toNat).map fun i : Nat => .int (i : Int)) by
    unfold envK
    simp only [evs, Nat.reduceSub, rng1K_i (show -10000000 ≤ a ∧ a ≤ 10000000 by omega), rngD0], ofO_ok]
  exact key
end
theorem hlaw (ns : List Int) (hl : ns.length ≤ 63) : (s_law (.val (.list (ns.map .int)) :: List.replicate 15 .no)).all IsT NoX := by
  unfold s_law
  refine st_start rfl hl fun p q => ?_
  refine st_wset ?_
  simp only [evs, Nat.reduceSub]
  rintro _ ⟨N, w, s, rfl, g⟩
  have n3 := g.n3
  have n150 := g.n150
  have w2 := g.w2
  have w150 := g.w150
  refine st_wpar ?_
  simp only [evs, Nat.reduceSub, drawK_i (show 0 < N ∧ N ≤ 1000001 by omega)]
  rintro _ ⟨st, rfl, s0, s1⟩
  simp only [evs, Nat.reduceSub, pickK_l (show [PyData.int 6, PyData.int 40] ≠ [] ∧ [PyData.int 6, PyData.int 40].length ≤ 1000 by simp)]
  intro d hd
  obtain ⟨b, rfl, hb⟩ : ∃ b, d = .int b ∧ 0 < b ∧ b ≤ 40 := by
    simp only [List.mem_cons, List.not_mem_nil, or_false] at hd
    rcases hd with rfl | rfl
    · exact ⟨6, rfl, by decide, by decide⟩
    · exact ⟨40, rfl, by decide, by decide⟩
  simp only [evs, Nat.reduceSub, drawK_i (show 0 < b ∧ b ≤ 1000001 by omega)]
  rintro _ ⟨a, rfl, a0, a1⟩
  have hN : 0 < N := by omega
  refine all_nx (ρ' := [.val (.list (ns.map .int)), .dr p q, .val (gear N w s), .val (.int st), .val (.int a), .own ((dueL N st 0).map .int), .no, .no, .no, .no, .no, .no, .no, .no, .no, .no]) ?_ ?_
  · have own : gOwn (.list (List.replicate N.toNat (PyData.int 0))) = .ok (List.replicate N.toNat (PyData.int 0)) := by
      have := @gOwn_ints (List.replicate N.toNat 0)
      rwa [List.map_replicate] at this
    simp only [evs, Nat.reduceSub, hRep_1 (d := .int 0) (k := N) (by rw [List.length_singleton]; omega), own, dueL_zero hN]
    rw [List.map_replicate]
  refine all_nx (ρ' := [.val (.list (ns.map .int)), .dr p q, .val (gear N w s), .val (.int st), .val (.int a), .own ((dueL N st 0).map .int), .ll (nosL N w st 0), .no, .no, .no, .no, .no, .no, .no, .no, .no]) ?_ ?_
  · simp only [evs, Nat.reduceSub, sLL_e, rng1K_i (show -10000000 ≤ N ∧ N ≤ 10000000 by omega), rngD0]
    rw [if_pos (by simp; omega), nosL_zero hN]
    simp
  refine all_nx (ρ' := envK N w st a s (.val (.list (ns.map .int))) (.dr p q) 0 .no .no) ?_ ?_
  · simp only [evs, Nat.reduceSub]
    unfold envK
    rw [show (st + ((0 : Nat) : Int)) % N = st by rw [show st + ((0 : Nat) : Int) = st by omega, Int.emod_eq_of_lt s0 s1]]
  refine all_nx (outer g a0 (by omega)) ?_
  generalize (if a.toNat = 0 then Cell.no else Cell.val (.int (a - 1))) = c8
  generalize (if a.toNat = 0 then Cell.no else Cell.val (.int (w - 1))) = c9
  have em : a * w = ((a.toNat * w.toNat : Nat) : Int) := by
    rw [Int.natCast_mul, show ((a.toNat : Nat) : Int) = a by omega, show ((w.toNat : Nat) : Int) = w by omega]
  generalize a.toNat * w.toNat = m at em
  unfold envK
  have am : a * w ≤ 39 * 150 := Int.mul_le_mul (by omega) w150 (by omega) (by omega)
  have cv := r_cover g s0 s1 a0 (show a ≤ 150 by omega)
  rw [covL_due hN em] at cv
  refine st_no ?_ ?_
  · simp only [evs, Nat.reduceSub, cv, hMulR_i (show CMulB w by omega), dueL_sum hN, em, decide_true]
  refine st_wset ?_
  simp only [evs, Nat.reduceSub, drawK_i (show 0 < N ∧ N ≤ 1000001 by omega)]
  rintro _ ⟨t, rfl, t0, t1⟩
  have ao := r_arcs_over g s0 s1 a0 (show a ≤ 150 by omega) t0 t1
  rw [em] at ao
  have il := ixL_i (n := (nosL N w st m).length) t0 (by rw [nosL_len]; omega)
  have gd : (nosL N w st m).getD t.toNat [] = (ovL N w ((t - st) % N) m).map .int := by
    rw [List.getD_eq_getElem?_getD, nosL_at (by omega), show ((t.toNat : Nat) : Int) = t by omega]
    rfl
  refine st_no ?_ ?_
  · simp only [evs, Nat.reduceSub, ao, pLLx_e, llO_ll, il, gd, hNe_L, decide_true]
  have pb := pet_bd g
  have rb := rnd_bd g
  have q := gnum hN (show 0 < w by omega)
  have cp := r_cover g s0 s1 (show 0 ≤ petI N w by omega) (show petI N w ≤ 150 by omega)
  refine st_set (d := .list ((covL N w st (petI N w)).map .int)) (by simp only [evs, Nat.reduceSub, r_petals g, cp]) ?_
  simp only [evs, Nat.reduceSub]
  have cpl : covL N w st (petI N w) = List.replicate N.toNat (rndI N w) := covL_one hN (rndI N w) (by rw [← q.l, q.l2])
  have hr : hNe (.list ((List.replicate N.toNat (rndI N w)).map .int)) (.list (List.replicate N.toNat (PyData.int (rndI N w)))) = .ok (.bool false) := by
    rw [show List.replicate N.toNat (PyData.int (rndI N w)) = (List.replicate N.toNat (rndI N w)).map .int from List.map_replicate.symm, hNe_L, decide_eq_true rfl] <;> rfl
  refine st_no ?_ ?_
  · simp only [evs, Nat.reduceSub, r_rounds g, hRep_1 (d := .int (rndI N w)) (k := N) (by rw [List.length_singleton]; omega), cpl, hr]
  have hd := Int.emod_add_mul_ediv (-N) w
  have d0 := Int.emod_nonneg (-N) (show w ≠ 0 by omega)
  have d1 := Int.emod_lt_of_pos (-N) (show 0 < w by omega)
  have need : m_all_covered_after [gear N w s] = .ok (.val (.int (-(-N / w)))) := by
    simp only [evs, sSeq_e, Nat.reduceSub, m_all_covered_after, s_all_covered_after, r_check_gear g, hDiv_i (show 0 < w ∧ w < 1073741824 by omega)]
  refine st_set (d := .int (-(-N / w))) (by simp only [evs, Nat.reduceSub, need]) ?_
  generalize hc : -(-N / w) = c
  have hcw : c * w = -(w * (-N / w)) := by
    rw [← hc, Int.neg_mul, Int.mul_comm]
  have c1 : 1 ≤ c := by
    by_cases z : c < 1
    · have : c * w ≤ 0 * w := Int.mul_le_mul_of_nonneg_right (by omega) (by omega)
      omega
    · omega
  have c2 : c ≤ 150 := by
    by_cases z : 150 < c
    · have : 151 * w ≤ c * w := Int.mul_le_mul_of_nonneg_right (by omega) (by omega)
      omega
    · omega
  have cw1 : (c - 1) * w = c * w - w := by rw [Int.sub_mul, Int.one_mul]
  have mA := cov_all (st := st) (w := w) (c := c) hN (by omega)
  have mB := cov_not (st := st) (w := w) (c := c - 1) hN (Int.mul_nonneg (by omega) (by omega)) (by omega)
  simp only [evs, Nat.reduceSub]
  refine st_no ?_ ?_
  · simp only [evs, Nat.reduceSub, r_cover g s0 s1 (show 0 ≤ c by omega) c2, hMin1_i (covL_ne (st := st) (w := w) (a := c) hN), decide_eq_false (show ¬ minI (covL N w st c) < 1 by omega), r_cover g s0 s1 (show 0 ≤ c - 1 by omega) (show c - 1 ≤ 150 by omega), hMin1_i (covL_ne (st := st) (w := w) (a := c - 1) hN), decide_eq_false (show ¬ 0 < minI (covL N w st (c - 1)) by omega), decide_eq_true (show 0 < c by omega)]
  have a1w : (a + 1) * w = a * w + w := by rw [Int.add_mul, Int.one_mul]
  refine st_set (d := .list ((covL N w st (a + 1)).map .int)) (by simp only [evs, Nat.reduceSub, r_cover g s0 s1 (show 0 ≤ a + 1 by omega) (show a + 1 ≤ 150 by omega)]) ?_
  simp only [evs, Nat.reduceSub]
  have due : dueL N st m = covL N w st a := (covL_due hN em).symm
  have cat : hCat (.list ((covL N w st a).map .int)) (.list [.int 0]) = .ok (.list ((covL N w st a ++ [0]).map .int)) := by
    rw [hCat_l (by rw [List.length_map]; simp [covL]; omega), List.map_append] <;> rfl
  have mx := maxI_spec (ns := covL N w st a ++ [0]) (by simp)
  have mn := minI_spec (covL_ne (st := st) (w := w) (a := a) hN)
  have q0 := Int.ediv_nonneg (show 0 ≤ a * w by omega) (show 0 ≤ N by omega)
  have gap : maxI (covL N w st a ++ [0]) - minI (covL N w st a) ≤ 1 := by
    have l1 := (covL_mem mn.1).1
    rcases List.mem_append.mp mx.1 with z | z
    · have := (covL_mem z).2
      omega
    · have : maxI (covL N w st a ++ [0]) = 0 := by simpa using z
      omega
  refine st_no ?_ ?_
  · simp only [evs, Nat.reduceSub, due, covL_sum (st := st) (w := w) (a := a + 1) hN (by omega), covL_sum (st := st) (w := w) (a := a) hN (by omega), cat, hMax1_i (ns := covL N w st a ++ [0]) (by simp), hMin1_i (covL_ne (st := st) (w := w) (a := a) hN), decide_eq_false (show ¬ 1 < maxI (covL N w st a ++ [0]) - minI (covL N w st a) by omega), decide_eq_true (show (a + 1) * w - a * w = w by omega)]
  have z0 := Int.emod_nonneg (t - st) (show N ≠ 0 by omega)
  have z1 := Int.emod_lt_of_pos (t - st) hN
  generalize hF : ovL N w ((t - st) % N) (petI N w * w) = F
  have Fl : (F.length : Int) = rndI N w := by
    rw [← hF, ← q.l, q.l2]
    unfold ovL
    rw [ovP_len]
    exact ovC_whole hN z0 z1 (by omega)
  have Fn : F ≠ [] := fun z => by
    rw [z] at Fl
    have : (0 : Int) = rndI N w := Fl
    omega
  have Fs : sortI F = F := sorted_unique (sortI_sorted F) (by rw [← hF]; exact ovL_sorted hN (by omega)) (sortI_perm F)
  have Fm : maxI F < petI N w := by
    have := (maxI_spec Fn).1
    rw [← hF] at this ⊢
    exact ovL_lt hN (by omega) this
  refine st_set (d := .list (F.map .int)) (by simp only [evs, Nat.reduceSub, r_petals g, r_arcs_over g s0 s1 (show 0 ≤ petI N w by omega) (show petI N w ≤ 150 by omega) t0 t1, hF]) ?_
  simp only [evs, Nat.reduceSub]
  refine st_no ?_ ?_
  · simp only [evs, Nat.reduceSub, r_rounds g, r_petals g, List.length_map, Fl, Fs, hMax1_i Fn, decide_true, decide_eq_false (show ¬ petI N w ≤ maxI F by omega)]
  have u0 := Int.emod_nonneg (st + 1) (show N ≠ 0 by omega)
  have u1 := Int.emod_lt_of_pos (st + 1) hN
  refine st_set (d := .list ((covL N w ((st + 1) % N) a).map .int)) (by simp only [evs, Nat.reduceSub, hMod_i hN, r_cover g u0 u1 a0 (show a ≤ 150 by omega)]) ?_
  refine sz_ret (b := true) ?_ rfl
  have cat2 : hCat (.list (((covL N w ((st + 1) % N) a).drop 1).map .int)) (.list (((covL N w ((st + 1) % N) a).take 1).map .int)) = .ok (.list ((covL N w st a).map .int)) := by
    rw [hCat_l (by rw [List.length_map, List.length_map, List.length_drop, List.length_take]; simp [covL]; omega), ← List.map_append, covL_moved hN]
  have h0 : hEq (.list ((List.replicate N.toNat 0).map .int)) (.list (List.replicate N.toNat (PyData.int 0))) = .ok (.bool true) := by
    rw [show List.replicate N.toNat (PyData.int 0) = (List.replicate N.toNat 0).map .int from List.map_replicate.symm, hEq_L, decide_eq_true rfl]
  have o0 : ovL N w ((t - st) % N) (0 * w) = [] := by
    unfold ovL
    rw [Int.zero_mul, ovC_zero hN z0]
    rfl
  simp only [evs, Nat.reduceSub, due, cutD_map, cutL_1, cutL_t1, cat2, decide_true, r_cover g s0 s1 (show (0 : Int) ≤ 0 by decide) (show (0 : Int) ≤ 150 by decide), covL_one (st := st) (w := w) (a := 0) hN 0 (by rw [Int.zero_mul, Int.zero_mul]), hRep_1 (d := .int 0) (k := N) (by rw [List.length_singleton]; omega), h0, r_arcs_over g s0 s1 (show (0 : Int) ≤ 0 by decide) (show (0 : Int) ≤ 150 by decide) t0 t1, o0, List.map_nil, show hEq (.list []) (.list []) = .ok (.bool true) by kernel_rfl]

/-! ### the tactics -/
local macro_rules | `(tactic| walk_at "dp") => `(tactic| first
  | assumption | with_reducible exact .int _ | with_reducible exact .str _ | with_reducible exact .bl _ | with_reducible exact .non
  | ((with_reducible apply dp_ex); assumption; walk_at "dp"))
local macro_rules | `(tactic| walk_at "om") => `(tactic| first | assumption | decide | omega)
local macro_rules | `(tactic| walk_at "f") => `(tactic| assumption)
local macro_rules | `(tactic| walk_at "sz") => `(tactic| first | decide | (simp only [List.length_cons, List.length_nil]; omega))
local macro_rules | `(tactic| walk_at "y") => `(tactic| first
  | with_reducible exact yd_int | with_reducible exact yd_str | with_reducible exact yd_bl | with_reducible exact yd_non | with_reducible exact ya_nil | with_reducible exact yt_yes
  | ((with_reducible apply yd_var); exact rfl; walk_at "dp")
  | ((with_reducible apply ya_cons) <;> walk_at "y")
  | ((with_reducible apply yd_op) <;> walk_at "y")
  | ((with_reducible apply yd_un) <;> walk_at "y")
  | with_reducible exact rd_add | with_reducible exact rd_sub | with_reducible exact rd_lt | with_reducible exact rd_le | with_reducible exact rd_gt | with_reducible exact rd_ge
  | with_reducible exact rd_eqI | with_reducible exact rd_neI | with_reducible exact rd_isN | with_reducible exact rd_notN | with_reducible exact rd_isB | with_reducible exact rd_notB | with_reducible exact rd_neg
  | with_reducible exact rd_t0 | with_reducible exact rd_t1 | with_reducible exact rd_t2 | with_reducible exact rd_l0
  | ((with_reducible apply rd_mod); walk_at "om") | ((with_reducible apply rd_fdiv); walk_at "om")
  | ((with_reducible apply rd_mulR); walk_at "om") | ((with_reducible apply rd_mulL); walk_at "om") | ((with_reducible apply rd_pow); walk_at "om")
  | ((with_reducible apply yd_call); walk_at "y"; walk_at "f")
  | ((with_reducible apply yn_call); walk_at "y"; walk_at "f")
  | ((with_reducible apply ydn_call); walk_at "y"; walk_at "f")
  | ((with_reducible apply yd_isiT); walk_at "y"; simp)
  | ((with_reducible apply yd_tup); walk_at "y"; walk_at "sz")
  | ((with_reducible apply yn_lst); walk_at "y"; walk_at "sz")
  | ((with_reducible apply yd_cb); walk_at "y"; first | exact rd_lenL | exact rd_lenT | exact rd_min2 | exact rd_max2 | exact rd_abs)
  | ((with_reducible apply yt_test) <;> walk_at "y")
  | ((with_reducible apply yt_B) <;> walk_at "y"))

/-! ### the law's draws -/
abbrev st__law_start : Stmt := topS 23
abbrev N__law_start : List Str := ["_law_script"]
theorem sc__law_start : FnScope N__law_start ["_law_script"] (defScope st__law_start) := ⟨rfl, rfl, rfl, by decide +kernel, rfl, by decide +kernel, by decide +kernel⟩
abbrev st__law_draw : Stmt := topS 24
abbrev N__law_draw : List Str := ["_law_draws", "_law_limit", "_law_numbers", "_law_at", "_law_cell", "_law_mixed"]
theorem sc__law_draw : FnScope N__law_draw ["_law_draws", "_law_limit"] (defScope st__law_draw) := ⟨rfl, rfl, rfl, by decide +kernel, rfl, by decide +kernel, by decide +kernel⟩
abbrev st__law_pick : Stmt := topS 25
abbrev N__law_pick : List Str := ["_law_draws", "_law_choices"]
theorem sc__law_pick : FnScope N__law_pick ["_law_draws", "_law_choices"] (defScope st__law_pick) := ⟨rfl, rfl, rfl, by decide +kernel, rfl, by decide +kernel, by decide +kernel⟩
abbrev st__law_gear : Stmt := topS 26
abbrev N__law_gear : List Str := ["_law_draws", "_law_wide", "_law_side", "_law_ring", "_law_wheel"]
theorem sc__law_gear : FnScope N__law_gear ["_law_draws"] (defScope st__law_gear) := ⟨rfl, rfl, rfl, by decide +kernel, rfl, by decide +kernel, by decide +kernel⟩
theorem len__law_pick {K : Fg} : ∀ vs H Q E, spPick K vs H Q E → vs.length = 2 := fun _ _ _ _ ⟨_, _, _, _, e, _⟩ => e ▸ rfl
theorem len__law_gear {K : Fg} : ∀ vs H Q E, spGear K vs H Q E → vs.length = 1 := fun _ _ _ _ ⟨_, _, e, _⟩ => e ▸ rfl
theorem len__law_start {K : Fg} : ∀ vs H Q E, spStart K vs H Q E → vs.length = 1 := fun _ _ _ _ ⟨_, _, e, _⟩ => e ▸ rfl
theorem len__law_draw : ∀ vs H Q E, spDraw vs H Q E → vs.length = 2 := fun _ _ _ _ ⟨_, _, _, e, _⟩ => e ▸ rfl
section
variable {P : Program} {w : World} {K : Fg} {mg : Str → Option Value} {base : Heap}
theorem ok__law_start (Z : Df K mg "_law_start" st__law_start) (m_list : mg "list" = none) : Cal P w K mg base "_law_start" ["_law_script"] 1 (spStart K) := by
  refine Z.cal sc__law_start (fun _ _ _ _ _ _ us hl => match us, hl with | [_], _ => rfl) len__law_start (fun f cdv A outer s H vs Q E hr hf => ?_)
  refine ⟨_, (pss_one (ps_ret (pe_lst (pa_cons (pe_ifExp (pt_cmpR (op_neD hr.units) (pv 0) (pe_lst pa_nil) (nomark _)) (pe_callTy call_list_of rfl m_list (by decide +kernel) (pa_cons (pv 0) pa_nil)) (pe_lst (pa_cons pe_int pa_nil))) (pa_cons pe_int pa_nil))))), ?_⟩
  try dsimp only [cxOf]
  obtain ⟨a, ns, rfl, hS, hl, k⟩ := hf
  have h0 : Dp K H (.ref a) (.list (ns.map .int)) := .lst hS (dps_ints ns)
  have key : Yn K (tIf (tTest (tOp (rNeD K) (tVar 0) (tLst tNil))) (tCB (fun xs H Q => ∃ p ys, xs = [.ref p] ∧ (SqL K H p ys ∨ SqT K H p ys) ∧ ∀ l, H l = none → Q (.ref l) (upd H l (.lst ys))) (tCons (tVar 0) tNil)) (tLst (tCons (tC (.int 0)) tNil))) (L2.start N__law_start [.ref a]) H ((if ns = [] then [0] else ns).map .int) := by
    refine yn_if (yt_test (yd_op (by walk_at "y") (yn_lst ya_nil (by decide)).yd (rd_neL (ms := [])))) (fun q => ?_) fun q => ?_
    · rw [if_neg (of_decide_eq_true q)]
      exact yn_cb (by walk_at "y") rn_list
    · have z : ns = [] := by
        have := of_decide_eq_false q
        exact Decidable.not_not.mp this
      rw [if_pos z]
      exact yn_lst (ya_cons yd_int ya_nil) (by decide)
  refine key H ex_rfl _ fun q xs H1 hq e1 h1 hd => ⟨by show 2 ≤ sizeLine; decide, fun p hp => ?_⟩
  obtain rfl := of_dps_ints hd
  have npq : q ≠ p := ne_of_none h1 hp
  refine k p q _ (Evl.fresh_back e1 hp) hq (e1.trans (Evl.Ex.new hp)) ⟨npq.symm, 0, _, upd_same, by rw [upd_ne npq]; exact h1, ?_, ?_⟩
  · split
    · simp
    · assumption
  · split
    · simp
    · omega
theorem ok__law_draw (Z : Df K mg "_law_draw" st__law_draw) (m_len : mg "len" = none) : Cal P w K mg base "_law_draw" ["_law_draws", "_law_limit"] 1 spDraw := by
  refine Z.cal sc__law_draw (fun _ _ _ _ _ _ us hl => match us, hl with | [_, _], _ => rfl) len__law_draw (fun f cdv A outer s H vs Q E hr hf => ?_)
  refine ⟨_, (pss_cons (ps_set (i := 2) sc__law_draw.nd rfl (.inl rfl) (pe_ix ix_seq (pv 0) pe_int (fun _ _ => rfl)))
    (pss_cons (ps_asg (pe_op op_add (pe_ix ix_seq (pv 0) pe_int (fun _ _ => rfl)) pe_int) (pg_sub (pv 0) pe_int set_list))
    (pss_cons (ps_set (i := 3) sc__law_draw.nd rfl (.inl rfl) (pe_op op_mod (pe_ix ix_seq (pv 0) pe_int (fun _ _ => rfl)) (pe_callB call_len rfl m_len (by decide +kernel) (pa_cons (pv 2) pa_nil))))
    (pss_cons (ps_set (i := 4) sc__law_draw.nd rfl (.inl rfl) (pe_ix ix_seq (pv 2) (pv 3) (fun _ _ => rfl)))
    (pss_cons (ps_if (pt_cmpR op_ge (pv 4) pe_int (nomark _)) (pss_cons (ps_asg (pe_op op_fdiv (pv 4) (pv 1)) (pg_sub (pv 2) (pv 3) set_list))
    (pss_one (ps_ret (pe_op op_mod (pv 4) (pv 1))))) pss_nil)
    (pss_cons (ps_set (i := 5) sc__law_draw.nd rfl (.inl rfl) (pe_op op_mod (pe_op op_add (pv 4) (pe_op op_mul pe_int (pe_ix ix_seq (pv 0) pe_int (fun _ _ => rfl)))) pe_int))
    (pss_cons (ps_set (i := 5) sc__law_draw.nd rfl (.inl rfl) (pe_op op_mod (pe_op op_pow (pv 5) pe_int) pe_int))
    (pss_one (ps_ret (pe_op op_mod (pe_op op_fdiv (pe_op op_mod (pe_op op_add (pe_op op_mul (pe_op op_fdiv (pv 5) pe_int) pe_int) (pv 5)) pe_int) pe_int) (pv 1))))))))))), ?_⟩
  try dsimp only [cxOf]
  obtain ⟨p, q, n, rfl, hn0, hn1, ⟨npq, c, ns, hp, hq, hne, hlen⟩, k⟩ := hf
  -- numbers = draws[0]
  refine ⟨.ref p, rfl, .inl ⟨p, _, 0, .ref q, rfl, rfl, SqL.of hp, atI_nat (j := 0) rfl, ?_⟩⟩
  -- draws[1] = draws[1] + 1
  refine ⟨.ref p, rfl, .inl ⟨p, _, 1, .int c, rfl, rfl, SqL.of hp, atI_nat (j := 1) rfl, c, 1, rfl, rfl, .ref p, rfl, p, _, 1, 1, rfl, rfl, hp, rfl, ?_⟩⟩
  have hp1 : (upd H p (.lst [.ref q, .int (c + 1)])) p = some (.lst [.ref q, .int (c + 1)]) := upd_same
  have hq1 : (upd H p (.lst [.ref q, .int (c + 1)])) q = some (.lst (ns.map V.int)) := by rw [upd_ne npq.symm]; exact hq
  have ex1 : Exd p q H (upd H p (.lst [.ref q, .int (c + 1)])) := fun a o h1 _ h => by rw [upd_ne h1]; exact h
  have dr1 : Dr (upd H p (.lst [.ref q, .int (c + 1)])) p q := ⟨npq, c + 1, ns, hp1, hq1, hne, hlen⟩
  show tSeq _ _ _ _ (upd H p (.lst [.ref q, .int (c + 1)]))
  generalize upd H p (.lst [.ref q, .int (c + 1)]) = H1 at hp1 hq1 ex1 dr1 ⊢
  have hL : 0 < (ns.length : Int) := by
    have : ns.length ≠ 0 := fun z => hne (List.length_eq_zero_iff.mp z)
    omega
  -- at = draws[1] % len(numbers)
  refine ⟨.ref p, rfl, .inl ⟨p, _, 1, .int (c + 1), rfl, rfl, SqL.of hp1, atI_nat (j := 1) rfl, .ref q, rfl, .ref q, _, rfl, .inl ⟨_, SqL.of hq1, rfl⟩, c + 1, (ns.map V.int).length, rfl, rfl, by rw [List.length_map]; exact hL, ?_⟩⟩
  have a0 : 0 ≤ (c + 1) % ((ns.map V.int).length : Int) := Int.emod_nonneg _ (by rw [List.length_map]; omega)
  have a1 : (c + 1) % ((ns.map V.int).length : Int) < ns.length := by
    have := Int.emod_lt_of_pos (c + 1) (show 0 < ((ns.map V.int).length : Int) by rw [List.length_map]; exact hL)
    rw [List.length_map] at this ⊢
    exact this
  dsimp only
  generalize hat : (c + 1) % ((ns.map V.int).length : Int) = at' at a0 a1 ⊢
  obtain ⟨j, rfl⟩ := Int.eq_ofNat_of_zero_le a0
  have hj : j < ns.length := by omega
  have gj : (ns.map V.int)[j]? = some (.int ns[j]) := by rw [List.getElem?_map, List.getElem?_eq_getElem hj] <;> rfl
  -- cell = numbers[at]
  refine ⟨.ref q, rfl, .int (j : Int), rfl, .inl ⟨q, _, (j : Int), .int ns[j], rfl, rfl, SqL.of hq1, atI_nat gj, ?_⟩⟩
  show tSeq _ _ _ _ H1
  generalize ns[j] = cell
  refine i_when (yt_test (K := K) (yd_op (yd_var (v := .int cell) rfl (.int _)) yd_int rd_ge)) (fun _ H2 e2 => ?_) fun _ H2 e2 => ?_
  · -- numbers[at] = cell // limit
    refine (yd_op (K := K) (yd_var (v := .int cell) rfl (.int _)) (yd_var (v := .int n) rfl (.int _)) (rd_fdiv ⟨hn0, by omega⟩)) H2 ex_rfl _ fun v H3 e3 p3 => ?_
    obtain rfl := dp_int p3
    refine ⟨.ref q, rfl, .int (j : Int), rfl, q, _, (j : Int), j, rfl, rfl, e3 _ _ (e2 _ _ hq1), Evl.ixN_nat (by rw [List.length_map]; exact hj), ?_⟩
    refine r_val (K := K) (yd_op (yd_var (v := .int cell) rfl (.int _)) (yd_var (v := .int n) rfl (.int _)) (rd_mod hn0)) fun v H4 e4 p4 => ?_
    obtain rfl := dp_int p4
    refine k _ H4 (Int.emod_nonneg _ (by omega)) (Int.emod_lt_of_pos _ hn0) (ex1.trans fun a o h1 h2 h => e4 _ _ (by rw [upd_ne h2]; exact e3 _ _ (e2 _ _ h))) ⟨npq, c + 1, ns.set j (cell / n), e4 _ _ (by rw [upd_ne npq]; exact e3 _ _ (e2 _ _ hp1)), e4 _ _ (by rw [upd_same, List.map_set]), ?_, by rw [List.length_set]; exact hlen⟩
    intro z
    have := congrArg List.length z
    rw [List.length_set] at this
    exact hne (List.length_eq_zero_iff.mp this)
  · -- mixed = (cell + 104729 * draws[1]) % 4294967291
    have hpd : Dp K H2 (.ref p) (.list [.list (ns.map .int), .int (c + 1)]) := .lst (SqL.of (e2 _ _ hp1)) (.cons (.lst (SqL.of (e2 _ _ hq1)) (dps_ints ns)) (.cons (.int _) .nil))
    refine a_int (K := K) (yd_op (yd_op (yd_var (v := .int cell) rfl (.int _)) (yd_op yd_int (yd_op (yd_var (v := .ref p) rfl hpd) yd_int (rd_ixL (atI_nat (j := 1) rfl))) (rd_mulL (by omega))) rd_add) yd_int (rd_mod (by decide))) fun H3 e3 => ?_
    have m0 := Int.emod_nonneg (cell + 104729 * (c + 1)) (show (4294967291 : Int) ≠ 0 by decide)
    have m1 := Int.emod_lt_of_pos (cell + 104729 * (c + 1)) (show (0 : Int) < 4294967291 by decide)
    show tSeq _ _ _ _ H3
    generalize (cell + 104729 * (c + 1)) % 4294967291 = mixed at m0 m1 ⊢
    refine a_int (K := K) (yd_op (yd_op (yd_var (v := .int mixed) rfl (.int _)) yd_int (rd_pow ⟨by decide, by decide, by omega⟩)) yd_int (rd_mod (by decide))) fun H4 e4 => ?_
    show tRet _ _ _ H4
    have s0 := Int.emod_nonneg (mixed ^ (5 : Int).toNat) (show (4294967279 : Int) ≠ 0 by decide)
    have s1 := Int.emod_lt_of_pos (mixed ^ (5 : Int).toNat) (show (0 : Int) < 4294967279 by decide)
    generalize mixed ^ (5 : Int).toNat % 4294967279 = mx at s0 s1 ⊢
    refine r_val (K := K) (yd_op (yd_op (yd_op (yd_op (yd_op (yd_op (yd_var (v := .int mx) rfl (.int _)) yd_int (rd_fdiv (by decide))) yd_int (rd_mulR (by decide))) (yd_var (v := .int mx) rfl (.int _)) rd_add) yd_int (rd_mod (by decide))) yd_int (rd_fdiv (by decide))) (yd_var (v := .int n) rfl (.int _)) (rd_mod hn0)) fun v H5 e5 p5 => ?_
    obtain rfl := dp_int p5
    have e := ((e2.trans e3).trans e4).trans e5
    exact k _ H5 (Int.emod_nonneg _ (by omega)) (Int.emod_lt_of_pos _ hn0) (ex1.trans (Exd.of_ex e)) (dr1.ex e)
theorem ok__law_pick (Z : Df K mg "_law_pick" st__law_pick) (c__law_draw : Cal P w K mg base "_law_draw" ["_law_draws", "_law_limit"] 1 spDraw) (m_len : mg "len" = none) : Cal P w K mg base "_law_pick" ["_law_draws", "_law_choices"] 2 (spPick K) := by
  refine Z.cal sc__law_pick (fun _ _ _ _ _ _ us hl => match us, hl with | [_, _], _ => rfl) len__law_pick (fun f cdv A outer s H vs Q E hr hf => ?_)
  refine ⟨_, (pss_one (ps_ret (pe_ix ix_seq (pv 1) (pe_cal c__law_draw (hr.mono (by decide)) px (pa_cons (pv 0) (pa_cons (pe_callB call_len rfl m_len (by decide +kernel) (pa_cons (pv 1) pa_nil)) pa_nil))) (fun _ _ => rfl)))), ?_⟩
  try dsimp only [cxOf]
  obtain ⟨p, q, a, xs, rfl, hD, hS, hne, hlen, k⟩ := hf
  have hS' : SqL K H a xs := Evl.ex_l msk_ex hS
  have hL : 0 < xs.length := by
    have : xs.length ≠ 0 := fun z => hne (List.length_eq_zero_iff.mp z)
    omega
  refine ⟨.ref a, rfl, .ref p, rfl, .ref a, rfl, .ref a, xs.length, rfl, (.inl ⟨xs, hS', rfl⟩), p, q, _, rfl, by omega, by omega, hD, fun r H2 h0 h1 e2 d2 => ?_⟩
  obtain ⟨j, rfl⟩ := Int.eq_ofNat_of_zero_le h0
  have hj : j < xs.length := by omega
  exact .inl ⟨a, xs, (j : Int), xs[j], rfl, rfl, Evl.ex_l (msk_exd e2) hS, atI_nat (List.getElem?_eq_getElem hj), k _ H2 (List.getElem_mem hj) e2 d2⟩
theorem ok__law_gear (Z : Df K mg "_law_gear" st__law_gear) (c__law_pick : Cal P w K mg base "_law_pick" ["_law_draws", "_law_choices"] 2 (spPick K)) (c__law_draw : Cal P w K mg base "_law_draw" ["_law_draws", "_law_limit"] 1 spDraw) (m_min : mg "min" = none) : Cal P w K mg base "_law_gear" ["_law_draws"] 3 (spGear K) := by
  refine Z.cal sc__law_gear (fun _ _ _ _ _ _ us hl => match us, hl with | [_], _ => rfl) len__law_gear (fun f cdv A outer s H vs Q E hr hf => ?_)
  refine ⟨_, (pss_cons (ps_set (i := 1) sc__law_gear.nd rfl (.inl rfl) (pe_cal c__law_pick (hr.mono (by decide)) px (pa_cons (pv 0) (pa_cons (pe_lst (pa_cons pe_int (pa_cons pe_int (pa_cons pe_int (pa_cons pe_int pa_nil))))) pa_nil))))
    (pss_cons (ps_set (i := 2) sc__law_gear.nd rfl (.inl rfl) (pe_cal c__law_pick (hr.mono (by decide)) px (pa_cons (pv 0) (pa_cons (pe_lst (pa_cons pe_str (pa_cons pe_str pa_nil))) pa_nil))))
    (pss_cons (ps_set (i := 3) sc__law_gear.nd rfl (.inl rfl) (pe_op op_add pe_int (pe_cal c__law_draw (hr.mono (by decide)) px (pa_cons (pv 0) (pa_cons (pe_op op_add (pe_op op_sub (pv 1) pe_int) pe_int) pa_nil)))))
    (pss_cons (ps_set (i := 3) sc__law_gear.nd rfl (.inl rfl) (pe_callB (call_min2 rfl) rfl m_min (by decide +kernel) (pa_cons (pv 3) (pa_cons pe_int pa_nil))))
    (pss_cons (ps_set (i := 4) sc__law_gear.nd rfl (.inl rfl) (pe_ifExp (pt_cmpR (op_eqD hr.units) (pv 2) pe_str (nomark _)) (pe_op op_add pe_int (pe_cal c__law_draw (hr.mono (by decide)) px (pa_cons (pv 0) (pa_cons (pe_op op_sub (pv 3) pe_int) pa_nil)))) (pe_op op_add pe_int (pe_cal c__law_draw (hr.mono (by decide)) px (pa_cons (pv 0) (pa_cons (pe_callB (call_min2 rfl) rfl m_min (by decide +kernel) (pa_cons pe_int (pa_cons (pe_op op_add (pv 1) pe_int) pa_nil))) pa_nil))))))
    (pss_one (ps_ret (pe_tup (pa_cons (pv 3) (pa_cons (pv 4) (pa_cons (pv 2) pa_nil))))))))))), ?_⟩
  try dsimp only [cxOf]
  obtain ⟨p, q, rfl, hD, k⟩ := hf
  have hm := Md.re hD
  refine q_int hm (zi_pick (K := K) (ns := [6, 14, 40, 150]) (by rfl) (yn_lst (ya_cons yd_int (ya_cons yd_int (ya_cons yd_int (ya_cons yd_int ya_nil)))) (by decide)) (by decide) (by decide)) fun wide H1 hw hm => ?_
  have hw' : wide = 6 ∨ wide = 14 ∨ wide = 40 ∨ wide = 150 := by simpa using hw
  refine q_asg hm (zs_pick (K := K) (ns := [sIn, sOut]) (by rfl) (yn_lst (ya_cons yd_str (ya_cons yd_str ya_nil)) (by decide)) (by decide) (by decide)) fun v H2 ⟨side, ev, hs⟩ hm => ?_
  subst ev
  have hs' : side = sIn ∨ side = sOut := by simpa using hs
  refine q_int hm (zi_op (K := K) (zi_pure (K := K) yd_int) (zi_draw (by rfl) (zi_pure (K := K) (by walk_at "y")) (fun n e => by subst e; omega)) (fun a b ha hb => rd_add)) fun ring H3 hr hm => ?_
  obtain ⟨x, y, rfl, ⟨n, rfl, hy0, hy1⟩, rfl⟩ := hr
  refine a_int (K := K) (by walk_at "y") fun H4 e4 => ?_
  have hm := hm.step e4
  have q0 : 3 ≤ min (3 + y) 150 := by omega
  have q1 : min (3 + y) 150 ≤ 150 := by omega
  have q2 : min (3 + y) 150 ≤ wide := by omega
  generalize min (3 + y) 150 = ring at q0 q1 q2 ⊢
  refine q_int hm (α := fun n => 2 ≤ n ∧ n ≤ 150 ∧ (side = sIn → n < ring)) (z_if (b := decide (side = sIn)) (yt_test (K := K) (yd_op (by walk_at "y") yd_str (rd_eqS (by rcases hs' with rfl | rfl <;> decide +kernel) (by decide +kernel)))) (fun c => ?_) fun c => ?_) fun wh H5 hwh hm => ?_
  · refine zv_to (zi_op (K := K) (zi_pure (K := K) yd_int) (zi_draw (by rfl) (zi_pure (K := K) (by walk_at "y")) (fun n e => by subst e; omega)) (fun a b ha hb => rd_add)) ?_
    rintro _ ⟨_, rfl, a, b, rfl, ⟨n, rfl, hb0, hb1⟩, rfl⟩
    exact ⟨_, rfl, by omega, by omega, fun _ => by omega⟩
  · refine zv_to (zi_op (K := K) (zi_pure (K := K) yd_int) (zi_draw (by rfl) (zi_pure (K := K) (by walk_at "y")) (fun n e => by subst e; omega)) (fun a b ha hb => rd_add)) ?_
    rintro _ ⟨_, rfl, a, b, rfl, ⟨n, rfl, hb0, hb1⟩, rfl⟩
    exact ⟨_, rfl, by omega, by omega, fun z => absurd z (of_decide_eq_false c)⟩
  · obtain ⟨w2, w150, hin⟩ := hwh
    refine r_val (K := K) (d := gear ring wh side) (by walk_at "y") fun v H6 e6 d6 => ?_
    have hm := hm.step e6
    refine k v ring wh side H6 ⟨q0, q1, w2, w150, hs'.imp (fun e => ⟨e, hin e⟩) id⟩ (fun a o n1 n2 h => hm.ex _ _ (by rw [msk_at n1 n2]; exact h)) hm.dr (dp_msk hm.dr (by simp [noLst, noLsts]) d6)
end

abbrev st_is_int : Stmt := topS 5
abbrev N_is_int : List Str := ["value", "low", "high"]
theorem sc_is_int : FnScope N_is_int ["value", "low", "high"] (defScope st_is_int) := ⟨rfl, rfl, rfl, by decide +kernel, rfl, by decide +kernel, by decide +kernel⟩
section
variable {P : Program} {w : World} {K : Fg} {mg : Str → Option Value} {base : Heap}
theorem ok_is_int (Z : Df K mg "is_int" st_is_int) (m_isinstance : mg "isinstance" = none) (m_int : mg "int" = none) (m_bool : mg "bool" = none) : Cal P w K mg base "is_int" ["value", "low", "high"] 1 (spF K (FM m_is_int)) := by
  refine Z.calM (s := s_is_int) sc_is_int (fun _ _ _ _ _ _ us hl => match us, hl with | [_, _, _], _ => rfl) rfl (fun f cdv A outer s H E hr => ?_)
  refine ⟨_, (pss_one (ps_ret (pe_and (pe_callB call_isi rfl m_isinstance (by decide +kernel) (pa_cons (pv 0) (pa_cons (pe_bltn (v := .ty "int") rfl m_int (by decide +kernel) rfl) pa_nil))) (pe_and (pe_not (pe_callB call_isi rfl m_isinstance (by decide +kernel) (pa_cons (pv 0) (pa_cons (pe_bltn (v := .ty "bool") rfl m_bool (by decide +kernel) rfl) pa_nil)))) (pe_one (pe_chain op_le op_le (pv 1) (pv 0) (pv 2))))))), ?_⟩
  try dsimp only [cxOf]
  exact (ys_ret (yt_andV (yt_isi (yt_var (i := 0)) (by simp)) (yt_andV (yt_notV (yt_isi (yt_var (i := 0)) (by simp))) (yt_chain (yt_var (i := 1)) (yt_var (i := 0)) (yt_var (i := 2)) ho_le ho_le))))
end
abbrev st_is_gear : Stmt := topS 7
abbrev N_is_gear : List Str := ["value"]
theorem sc_is_gear : FnScope N_is_gear ["value"] (defScope st_is_gear) := ⟨rfl, rfl, rfl, by decide +kernel, rfl, by decide +kernel, by decide +kernel⟩
section
variable {P : Program} {w : World} {K : Fg} {mg : Str → Option Value} {base : Heap}
theorem ok_is_gear (Z : Df K mg "is_gear" st_is_gear) (c_is_int : Cal P w K mg base "is_int" ["value", "low", "high"] 1 (spF K (FM m_is_int))) (m_isinstance : mg "isinstance" = none) (m_tuple : mg "tuple" = none) (m_len : mg "len" = none) (m_str : mg "str" = none) : Cal P w K mg base "is_gear" ["value"] 2 (spF K (FM m_is_gear)) := by
  refine Z.calM (s := s_is_gear) sc_is_gear (fun _ _ _ _ _ _ us hl => match us, hl with | [_], _ => rfl) rfl (fun f cdv A outer s H E hr => ?_)
  refine ⟨_, (pss_cons (ps_if (PW.pt (pw_or (pt_not (pt_val (pe_callB call_isi rfl m_isinstance (by decide +kernel) (pa_cons (pv 0) (pa_cons (pe_bltn (v := .ty "tuple") rfl m_tuple (by decide +kernel) rfl) pa_nil))))) (pw_or1 (pt_cmpR (op_neD hr.units) (pe_callB call_len rfl m_len (by decide +kernel) (pa_cons (pv 0) pa_nil)) pe_int (nomark _))))) (pss_one (ps_ret pe_bl)) pss_nil)
    (pss_cons (ps_if (PW.pt (pw_or (pt_not (pt_val (pe_cal c_is_int (hr.mono (by decide)) px (pa_cons (pe_ix ix_seq (pv 0) pe_int (fun _ _ => rfl)) (pa_cons pe_int (pa_cons pe_int pa_nil)))))) (pw_or1 (pt_not (pt_val (pe_cal c_is_int (hr.mono (by decide)) px (pa_cons (pe_ix ix_seq (pv 0) pe_int (fun _ _ => rfl)) (pa_cons pe_int (pa_cons pe_int pa_nil))))))))) (pss_one (ps_ret pe_bl)) pss_nil)
    (pss_cons (ps_if (PW.pt (pw_or (pt_not (pt_val (pe_callB call_isi rfl m_isinstance (by decide +kernel) (pa_cons (pe_ix ix_seq (pv 0) pe_int (fun _ _ => rfl)) (pa_cons (pe_bltn (v := .ty "str") rfl m_str (by decide +kernel) rfl) pa_nil))))) (pw_or1 (pt_cmpR op_notIn_seq (pe_ix ix_seq (pv 0) pe_int (fun _ _ => rfl)) (pe_tup (pa_cons pe_str (pa_cons pe_str pa_nil))) rfl)))) (pss_one (ps_ret pe_bl)) pss_nil)
    (pss_one (ps_ret (pe_or (pe_cmpR (op_eqD hr.units) (pe_ix ix_seq (pv 0) pe_int (fun _ _ => rfl)) pe_str (nomark _)) (pe_one (pe_cmpR op_lt (pe_ix ix_seq (pv 0) pe_int (fun _ _ => rfl)) (pe_ix ix_seq (pv 0) pe_int (fun _ _ => rfl)) (nomark _))))))))), ?_⟩
  try dsimp only [cxOf]
  exact (ys_seq (ys_if (yb_or (yb_not (yb_B (yt_isi (yt_var (i := 0)) (by simp)))) (yb_test (yt_op (yt_cb (ya_cs (yt_var (i := 0)) ya_nl) hc_len) yt_int ho_ne))) (ys_ret yt_bl) ys_next)
    (ys_seq (ys_if (yb_or (yb_not (yb_B (yt_call (ya_cs (yt_op (yt_var (i := 0)) yt_int ho_ix) (ya_cs yt_int (ya_cs yt_int ya_nl)))))) (yb_not (yb_B (yt_call (ya_cs (yt_op (yt_var (i := 0)) yt_int ho_ix) (ya_cs yt_int (ya_cs yt_int ya_nl))))))) (ys_ret yt_bl) ys_next)
    (ys_seq (ys_if (yb_or (yb_not (yb_B (yt_isi (yt_op (yt_var (i := 0)) yt_int ho_ix) (by simp)))) (yb_test (yt_op (yt_op (yt_var (i := 0)) yt_int ho_ix) (yt_tup (ya_cs yt_str (ya_cs yt_str ya_nl))) ho_niT))) (ys_ret yt_bl) ys_next)
    (ys_ret (yt_orV (yt_op (yt_op (yt_var (i := 0)) yt_int ho_ix) yt_str ho_eq) (yt_op (yt_op (yt_var (i := 0)) yt_int ho_ix) (yt_op (yt_var (i := 0)) yt_int ho_ix) ho_lt))))))
end
abbrev st_check_gear : Stmt := topS 8
abbrev N_check_gear : List Str := ["value"]
theorem sc_check_gear : FnScope N_check_gear ["value"] (defScope st_check_gear) := ⟨rfl, rfl, rfl, by decide +kernel, rfl, by decide +kernel, by decide +kernel⟩
section
variable {P : Program} {w : World} {K : Fg} {mg : Str → Option Value} {base : Heap}
theorem ok_check_gear (Z : Df K mg "check_gear" st_check_gear) (c_is_gear : Cal P w K mg base "is_gear" ["value"] 2 (spF K (FM m_is_gear))) (e_BadGear : ExF K mg "BadGear") : Cal P w K mg base "check_gear" ["value"] 3 (spF K (FM m_check_gear)) := by
  refine Z.calM (s := s_check_gear) sc_check_gear (fun _ _ _ _ _ _ us hl => match us, hl with | [_], _ => rfl) rfl (fun f cdv A outer s H E hr => ?_)
  refine ⟨_, (pss_one (ps_if (pt_not (pt_val (pe_cal c_is_gear (hr.mono (by decide)) px (pa_cons (pv 0) pa_nil)))) (pss_one (ps_rz e_BadGear)) pss_nil)), ?_⟩
  try dsimp only [cxOf]
  exact (ys_if (yb_not (yb_B (yt_call (ya_cs (yt_var (i := 0)) ya_nl)))) ys_rz ys_next)
end
abbrev st_check_tooth : Stmt := topS 9
abbrev N_check_tooth : List Str := ["gear", "value"]
theorem sc_check_tooth : FnScope N_check_tooth ["gear", "value"] (defScope st_check_tooth) := ⟨rfl, rfl, rfl, by decide +kernel, rfl, by decide +kernel, by decide +kernel⟩
section
variable {P : Program} {w : World} {K : Fg} {mg : Str → Option Value} {base : Heap}
theorem ok_check_tooth (Z : Df K mg "check_tooth" st_check_tooth) (c_is_int : Cal P w K mg base "is_int" ["value", "low", "high"] 1 (spF K (FM m_is_int))) (e_BadTooth : ExF K mg "BadTooth") : Cal P w K mg base "check_tooth" ["gear", "value"] 2 (spF K (FM m_check_tooth)) := by
  refine Z.calM (s := s_check_tooth) sc_check_tooth (fun _ _ _ _ _ _ us hl => match us, hl with | [_, _], _ => rfl) rfl (fun f cdv A outer s H E hr => ?_)
  refine ⟨_, (pss_one (ps_if (pt_not (pt_val (pe_cal c_is_int (hr.mono (by decide)) px (pa_cons (pv 1) (pa_cons pe_int (pa_cons (pe_op op_sub (pe_ix ix_seq (pv 0) pe_int (fun _ _ => rfl)) pe_int) pa_nil)))))) (pss_one (ps_rz e_BadTooth)) pss_nil)), ?_⟩
  try dsimp only [cxOf]
  exact (ys_if (yb_not (yb_B (yt_call (ya_cs (yt_var (i := 1)) (ya_cs yt_int (ya_cs (yt_op (yt_op (yt_var (i := 0)) yt_int ho_ix) yt_int ho_sub) ya_nl)))))) ys_rz ys_next)
end
abbrev st_check_arcs : Stmt := topS 10
abbrev N_check_arcs : List Str := ["value"]
theorem sc_check_arcs : FnScope N_check_arcs ["value"] (defScope st_check_arcs) := ⟨rfl, rfl, rfl, by decide +kernel, rfl, by decide +kernel, by decide +kernel⟩
section
variable {P : Program} {w : World} {K : Fg} {mg : Str → Option Value} {base : Heap}
theorem ok_check_arcs (Z : Df K mg "check_arcs" st_check_arcs) (c_is_int : Cal P w K mg base "is_int" ["value", "low", "high"] 1 (spF K (FM m_is_int))) (e_BadNumber : ExF K mg "BadNumber") : Cal P w K mg base "check_arcs" ["value"] 2 (spF K (FM m_check_arcs)) := by
  refine Z.calM (s := s_check_arcs) sc_check_arcs (fun _ _ _ _ _ _ us hl => match us, hl with | [_], _ => rfl) rfl (fun f cdv A outer s H E hr => ?_)
  refine ⟨_, (pss_one (ps_if (pt_not (pt_val (pe_cal c_is_int (hr.mono (by decide)) px (pa_cons (pv 0) (pa_cons pe_int (pa_cons pe_int pa_nil)))))) (pss_one (ps_rz e_BadNumber)) pss_nil)), ?_⟩
  try dsimp only [cxOf]
  exact (ys_if (yb_not (yb_B (yt_call (ya_cs (yt_var (i := 0)) (ya_cs yt_int (ya_cs yt_int ya_nl)))))) ys_rz ys_next)
end
abbrev st_cover_of : Stmt := topS 12
abbrev N_cover_of : List Str := ["gear", "start", "arcs", "whole", "found", "k"]
theorem sc_cover_of : FnScope N_cover_of ["gear", "start", "arcs"] (defScope st_cover_of) := ⟨rfl, rfl, rfl, by decide +kernel, rfl, by decide +kernel, by decide +kernel⟩
section
variable {P : Program} {w : World} {K : Fg} {mg : Str → Option Value} {base : Heap}
theorem ok_cover_of (Z : Df K mg "cover_of" st_cover_of) (m_range : mg "range" = none) : Cal P w K mg base "cover_of" ["gear", "start", "arcs"] 1 (spF K (FM m_cover_of)) := by
  refine Z.calM (s := s_cover_of) sc_cover_of (fun _ _ _ _ _ _ us hl => match us, hl with | [_, _, _], _ => rfl) rfl (fun f cdv A outer s H E hr => ?_)
  refine ⟨_, (pss_cons (ps_set (i := 3) sc_cover_of.nd rfl (.inl rfl) (pe_op op_mul (pv 2) (pe_ix ix_seq (pv 0) pe_int (fun _ _ => rfl))))
    (pss_cons (ps_set (i := 4) sc_cover_of.nd rfl (.inl rfl) (pe_op op_rep (pe_lst (pa_cons (pe_op op_fdiv (pv 3) (pe_ix ix_seq (pv 0) pe_int (fun _ _ => rfl))) pa_nil)) (pe_ix ix_seq (pv 0) pe_int (fun _ _ => rfl))))
    (pss_cons (ps_for (passes_of rfl) rfl (pi_range1 rfl m_range (pa_cons (pe_op op_mod (pv 3) (pe_ix ix_seq (pv 0) pe_int (fun _ _ => rfl))) pa_nil)) (pg_name (i := 5) sc_cover_of.nd rfl (.inl rfl)) (pss_one (ps_augS (pv 4) (pe_op op_mod (pe_op op_add (pv 1) (pv 5)) (pe_ix ix_seq (pv 0) pe_int (fun _ _ => rfl))) get_list pe_int ip_add set_list)))
    (pss_one (ps_ret (pv 4)))))), ?_⟩
  try dsimp only [cxOf]
  exact (ys_seq (ys_set (i := 3) (yf_t (yt_op (yt_var (i := 2)) (yt_op (yt_var (i := 0)) yt_int ho_ix) ho_mul)))
    (ys_seq (ys_own (i := 4) (yn_rep (yl_n (yn_lst' (ya_cs (yt_op (yt_var (i := 3)) (yt_op (yt_var (i := 0)) yt_int ho_ix) ho_div) ya_nl))) (yt_op (yt_var (i := 0)) yt_int ho_ix)))
    (ys_seq (ys_for (yi_r1 (yt_op (yt_var (i := 3)) (yt_op (yt_var (i := 0)) yt_int ho_ix) ho_mod)) ytg_one (ys_augI (i := 4) yt_int (yt_op (yt_op (yt_var (i := 1)) (yt_var (i := 5)) ho_add) (yt_op (yt_var (i := 0)) yt_int ho_ix) ho_mod)))
    (ys_reto (i := 4)))))
end
abbrev st_cover : Stmt := topS 13
abbrev N_cover : List Str := ["gear", "start", "arcs"]
theorem sc_cover : FnScope N_cover ["gear", "start", "arcs"] (defScope st_cover) := ⟨rfl, rfl, rfl, by decide +kernel, rfl, by decide +kernel, by decide +kernel⟩
section
variable {P : Program} {w : World} {K : Fg} {mg : Str → Option Value} {base : Heap}
theorem ok_cover (Z : Df K mg "cover" st_cover) (c_check_gear : Cal P w K mg base "check_gear" ["value"] 3 (spF K (FM m_check_gear))) (c_check_tooth : Cal P w K mg base "check_tooth" ["gear", "value"] 2 (spF K (FM m_check_tooth))) (c_check_arcs : Cal P w K mg base "check_arcs" ["value"] 2 (spF K (FM m_check_arcs))) (c_cover_of : Cal P w K mg base "cover_of" ["gear", "start", "arcs"] 1 (spF K (FM m_cover_of))) : Cal P w K mg base "cover" ["gear", "start", "arcs"] 4 (spF K (FM m_cover)) := by
  refine Z.calM (s := s_cover) sc_cover (fun _ _ _ _ _ _ us hl => match us, hl with | [_, _, _], _ => rfl) rfl (fun f cdv A outer s H E hr => ?_)
  refine ⟨_, (pss_cons (ps_expr (pe_cal c_check_gear (hr.mono (by decide)) px (pa_cons (pv 0) pa_nil)))
    (pss_cons (ps_expr (pe_cal c_check_tooth (hr.mono (by decide)) px (pa_cons (pv 0) (pa_cons (pv 1) pa_nil))))
    (pss_cons (ps_expr (pe_cal c_check_arcs (hr.mono (by decide)) px (pa_cons (pv 2) pa_nil)))
    (pss_one (ps_ret (pe_cal c_cover_of (hr.mono (by decide)) px (pa_cons (pv 0) (pa_cons (pv 1) (pa_cons (pv 2) pa_nil))))))))), ?_⟩
  try dsimp only [cxOf]
  exact (ys_seq (ys_drop (yt_call (ya_cs (yt_var (i := 0)) ya_nl)))
    (ys_seq (ys_drop (yt_call (ya_cs (yt_var (i := 0)) (ya_cs (yt_var (i := 1)) ya_nl))))
    (ys_seq (ys_drop (yt_call (ya_cs (yt_var (i := 2)) ya_nl)))
    (ys_retn (yn_call' (ya_cs (yt_var (i := 0)) (ya_cs (yt_var (i := 1)) (ya_cs (yt_var (i := 2)) ya_nl))))))))
end
abbrev st_all_covered_after : Stmt := topS 15
abbrev N_all_covered_after : List Str := ["gear"]
theorem sc_all_covered_after : FnScope N_all_covered_after ["gear"] (defScope st_all_covered_after) := ⟨rfl, rfl, rfl, by decide +kernel, rfl, by decide +kernel, by decide +kernel⟩
section
variable {P : Program} {w : World} {K : Fg} {mg : Str → Option Value} {base : Heap}
theorem ok_all_covered_after (Z : Df K mg "all_covered_after" st_all_covered_after) (c_check_gear : Cal P w K mg base "check_gear" ["value"] 3 (spF K (FM m_check_gear))) : Cal P w K mg base "all_covered_after" ["gear"] 4 (spF K (FM m_all_covered_after)) := by
  refine Z.calM (s := s_all_covered_after) sc_all_covered_after (fun _ _ _ _ _ _ us hl => match us, hl with | [_], _ => rfl) rfl (fun f cdv A outer s H E hr => ?_)
  refine ⟨_, (pss_cons (ps_expr (pe_cal c_check_gear (hr.mono (by decide)) px (pa_cons (pv 0) pa_nil)))
    (pss_one (ps_ret (pe_un un_neg (pe_op op_fdiv (pe_un un_neg (pe_ix ix_seq (pv 0) pe_int (fun _ _ => rfl))) (pe_ix ix_seq (pv 0) pe_int (fun _ _ => rfl))))))), ?_⟩
  try dsimp only [cxOf]
  exact (ys_seq (ys_drop (yt_call (ya_cs (yt_var (i := 0)) ya_nl)))
    (ys_ret (yt_un (yt_op (yt_un (yt_op (yt_var (i := 0)) yt_int ho_ix) hu_neg) (yt_op (yt_var (i := 0)) yt_int ho_ix) ho_div) hu_neg)))
end
abbrev st_arcs_over : Stmt := topS 14
abbrev N_arcs_over : List Str := ["gear", "start", "arcs", "tooth", "found", "step"]
theorem sc_arcs_over : FnScope N_arcs_over ["gear", "start", "arcs", "tooth"] (defScope st_arcs_over) := ⟨rfl, rfl, rfl, by decide +kernel, rfl, by decide +kernel, by decide +kernel⟩
section
variable {P : Program} {w : World} {K : Fg} {mg : Str → Option Value} {base : Heap}
theorem ok_arcs_over (Z : Df K mg "arcs_over" st_arcs_over) (c_check_gear : Cal P w K mg base "check_gear" ["value"] 3 (spF K (FM m_check_gear))) (c_check_tooth : Cal P w K mg base "check_tooth" ["gear", "value"] 2 (spF K (FM m_check_tooth))) (c_check_arcs : Cal P w K mg base "check_arcs" ["value"] 2 (spF K (FM m_check_arcs))) : Cal P w K mg base "arcs_over" ["gear", "start", "arcs", "tooth"] 4 (spF K (FM m_arcs_over)) := by
  refine Z.calM (s := s_arcs_over) sc_arcs_over (fun _ _ _ _ _ _ us hl => match us, hl with | [_, _, _, _], _ => rfl) rfl (fun f cdv A outer s H E hr => ?_)
  refine ⟨_, (pss_cons (ps_expr (pe_cal c_check_gear (hr.mono (by decide)) px (pa_cons (pv 0) pa_nil)))
    (pss_cons (ps_expr (pe_cal c_check_tooth (hr.mono (by decide)) px (pa_cons (pv 0) (pa_cons (pv 1) pa_nil))))
    (pss_cons (ps_expr (pe_cal c_check_arcs (hr.mono (by decide)) px (pa_cons (pv 2) pa_nil)))
    (pss_cons (ps_expr (pe_cal c_check_tooth (hr.mono (by decide)) px (pa_cons (pv 0) (pa_cons (pv 3) pa_nil))))
    (pss_cons (ps_set (i := 4) sc_arcs_over.nd rfl (.inl rfl) (pe_lst pa_nil))
    (pss_cons (ps_set (i := 5) sc_arcs_over.nd rfl (.inl rfl) (pe_op op_mod (pe_op op_sub (pv 3) (pv 1)) (pe_ix ix_seq (pv 0) pe_int (fun _ _ => rfl))))
    (pss_cons (ps_while (passes_of rfl) (pt_cmpR op_lt (pv 5) (pe_op op_mul (pv 2) (pe_ix ix_seq (pv 0) pe_int (fun _ _ => rfl))) (nomark _)) (pss_cons (ps_expr (pe_bm PySem.F.plainAttrs_list PySem.F.slot_list_append PySem.F.type_list_append mt_append (pv 4) (pa_cons (pe_op op_fdiv (pv 5) (pe_ix ix_seq (pv 0) pe_int (fun _ _ => rfl))) pa_nil)))
    (pss_one (ps_aug (i := 5) sc_arcs_over.nd rfl (.inl rfl) (pe_ix ix_seq (pv 0) pe_int (fun _ _ => rfl)) ip_add))))
    (pss_one (ps_ret (pv 4)))))))))), ?_⟩
  try dsimp only [cxOf]
  exact (ys_seq (ys_drop (yt_call (ya_cs (yt_var (i := 0)) ya_nl)))
    (ys_seq (ys_drop (yt_call (ya_cs (yt_var (i := 0)) (ya_cs (yt_var (i := 1)) ya_nl))))
    (ys_seq (ys_drop (yt_call (ya_cs (yt_var (i := 2)) ya_nl)))
    (ys_seq (ys_drop (yt_call (ya_cs (yt_var (i := 0)) (ya_cs (yt_var (i := 3)) ya_nl))))
    (ys_seq (ys_own (i := 4) (yn_lst' ya_nl))
    (ys_seq (ys_set (i := 5) (yf_t (yt_op (yt_op (yt_var (i := 3)) (yt_var (i := 1)) ho_sub) (yt_op (yt_var (i := 0)) yt_int ho_ix) ho_mod)))
    (ys_seq (ys_while (yb_test (yt_op (yt_var (i := 5)) (yt_op (yt_var (i := 2)) (yt_op (yt_var (i := 0)) yt_int ho_ix) ho_mul) ho_lt)) (ys_seq (ys_app (i := 4) (yt_op (yt_var (i := 5)) (yt_op (yt_var (i := 0)) yt_int ho_ix) ho_div))
    (ys_aug (i := 5) (yt_op (yt_var (i := 0)) yt_int ho_ix))))
    (ys_reto (i := 4)))))))))
end
abbrev st_common : Stmt := topS 6
abbrev N_common : List Str := ["one", "other"]
theorem sc_common : FnScope N_common ["one", "other"] (defScope st_common) := ⟨rfl, rfl, rfl, by decide +kernel, rfl, by decide +kernel, by decide +kernel⟩
section
variable {P : Program} {w : World} {K : Fg} {mg : Str → Option Value} {base : Heap}
theorem ok_common (Z : Df K mg "common" st_common) : Cal P w K mg base "common" ["one", "other"] 1 (spF K (FM m_common)) := by
  refine Z.calM (s := s_common) sc_common (fun _ _ _ _ _ _ us hl => match us, hl with | [_, _], _ => rfl) rfl (fun f cdv A outer s H E hr => ?_)
  refine ⟨_, (pss_cons (ps_while (passes_of rfl) (pt_cmpR (op_neD hr.units) (pv 1) pe_int (nomark _)) (pss_one (ps_par (i := 0) (j := 1) rfl sc_common.nd rfl rfl (by decide) rfl rfl (pa_cons (pv 1) (pa_cons (pe_op op_mod (pv 0) (pv 1)) pa_nil)) rfl)))
    (pss_one (ps_ret (pv 0)))), ?_⟩
  try dsimp only [cxOf]
  exact (ys_seq (ys_while (yb_test (yt_op (yt_var (i := 1)) yt_int ho_ne)) (ys_par (i := 0) (j := 1) (yf_var (i := 1)) (yf_t (yt_op (yt_var (i := 0)) (yt_var (i := 1)) ho_mod))))
    (ys_ret (yt_var (i := 0))))
end
abbrev st_shared_of : Stmt := topS 17
abbrev N_shared_of : List Str := ["gear"]
theorem sc_shared_of : FnScope N_shared_of ["gear"] (defScope st_shared_of) := ⟨rfl, rfl, rfl, by decide +kernel, rfl, by decide +kernel, by decide +kernel⟩
section
variable {P : Program} {w : World} {K : Fg} {mg : Str → Option Value} {base : Heap}
theorem ok_shared_of (Z : Df K mg "shared_of" st_shared_of) (c_common : Cal P w K mg base "common" ["one", "other"] 1 (spF K (FM m_common))) : Cal P w K mg base "shared_of" ["gear"] 2 (spF K (FM m_shared_of)) := by
  refine Z.calM (s := s_shared_of) sc_shared_of (fun _ _ _ _ _ _ us hl => match us, hl with | [_], _ => rfl) rfl (fun f cdv A outer s H E hr => ?_)
  refine ⟨_, (pss_one (ps_ret (pe_cal c_common (hr.mono (by decide)) px (pa_cons (pe_ix ix_seq (pv 0) pe_int (fun _ _ => rfl)) (pa_cons (pe_ix ix_seq (pv 0) pe_int (fun _ _ => rfl)) pa_nil))))), ?_⟩
  try dsimp only [cxOf]
  exact (ys_ret (yt_call (ya_cs (yt_op (yt_var (i := 0)) yt_int ho_ix) (ya_cs (yt_op (yt_var (i := 0)) yt_int ho_ix) ya_nl))))
end
abbrev st_petals_of : Stmt := topS 18
abbrev N_petals_of : List Str := ["gear"]
theorem sc_petals_of : FnScope N_petals_of ["gear"] (defScope st_petals_of) := ⟨rfl, rfl, rfl, by decide +kernel, rfl, by decide +kernel, by decide +kernel⟩
section
variable {P : Program} {w : World} {K : Fg} {mg : Str → Option Value} {base : Heap}
theorem ok_petals_of (Z : Df K mg "petals_of" st_petals_of) (c_shared_of : Cal P w K mg base "shared_of" ["gear"] 2 (spF K (FM m_shared_of))) : Cal P w K mg base "petals_of" ["gear"] 3 (spF K (FM m_petals_of)) := by
  refine Z.calM (s := s_petals_of) sc_petals_of (fun _ _ _ _ _ _ us hl => match us, hl with | [_], _ => rfl) rfl (fun f cdv A outer s H E hr => ?_)
  refine ⟨_, (pss_one (ps_ret (pe_op op_fdiv (pe_ix ix_seq (pv 0) pe_int (fun _ _ => rfl)) (pe_cal c_shared_of (hr.mono (by decide)) px (pa_cons (pv 0) pa_nil))))), ?_⟩
  try dsimp only [cxOf]
  exact (ys_ret (yt_op (yt_op (yt_var (i := 0)) yt_int ho_ix) (yt_call (ya_cs (yt_var (i := 0)) ya_nl)) ho_div))
end
abbrev st_petals : Stmt := topS 19
abbrev N_petals : List Str := ["gear"]
theorem sc_petals : FnScope N_petals ["gear"] (defScope st_petals) := ⟨rfl, rfl, rfl, by decide +kernel, rfl, by decide +kernel, by decide +kernel⟩
section
variable {P : Program} {w : World} {K : Fg} {mg : Str → Option Value} {base : Heap}
theorem ok_petals (Z : Df K mg "petals" st_petals) (c_check_gear : Cal P w K mg base "check_gear" ["value"] 3 (spF K (FM m_check_gear))) (c_petals_of : Cal P w K mg base "petals_of" ["gear"] 3 (spF K (FM m_petals_of))) : Cal P w K mg base "petals" ["gear"] 4 (spF K (FM m_petals)) := by
  refine Z.calM (s := s_petals) sc_petals (fun _ _ _ _ _ _ us hl => match us, hl with | [_], _ => rfl) rfl (fun f cdv A outer s H E hr => ?_)
  refine ⟨_, (pss_cons (ps_expr (pe_cal c_check_gear (hr.mono (by decide)) px (pa_cons (pv 0) pa_nil)))
    (pss_one (ps_ret (pe_cal c_petals_of (hr.mono (by decide)) px (pa_cons (pv 0) pa_nil))))), ?_⟩
  try dsimp only [cxOf]
  exact (ys_seq (ys_drop (yt_call (ya_cs (yt_var (i := 0)) ya_nl)))
    (ys_ret (yt_call (ya_cs (yt_var (i := 0)) ya_nl))))
end
abbrev st_rounds_of : Stmt := topS 20
abbrev N_rounds_of : List Str := ["gear"]
theorem sc_rounds_of : FnScope N_rounds_of ["gear"] (defScope st_rounds_of) := ⟨rfl, rfl, rfl, by decide +kernel, rfl, by decide +kernel, by decide +kernel⟩
section
variable {P : Program} {w : World} {K : Fg} {mg : Str → Option Value} {base : Heap}
theorem ok_rounds_of (Z : Df K mg "rounds_of" st_rounds_of) (c_shared_of : Cal P w K mg base "shared_of" ["gear"] 2 (spF K (FM m_shared_of))) : Cal P w K mg base "rounds_of" ["gear"] 3 (spF K (FM m_rounds_of)) := by
  refine Z.calM (s := s_rounds_of) sc_rounds_of (fun _ _ _ _ _ _ us hl => match us, hl with | [_], _ => rfl) rfl (fun f cdv A outer s H E hr => ?_)
  refine ⟨_, (pss_one (ps_ret (pe_op op_fdiv (pe_ix ix_seq (pv 0) pe_int (fun _ _ => rfl)) (pe_cal c_shared_of (hr.mono (by decide)) px (pa_cons (pv 0) pa_nil))))), ?_⟩
  try dsimp only [cxOf]
  exact (ys_ret (yt_op (yt_op (yt_var (i := 0)) yt_int ho_ix) (yt_call (ya_cs (yt_var (i := 0)) ya_nl)) ho_div))
end
abbrev st_rounds : Stmt := topS 21
abbrev N_rounds : List Str := ["gear"]
theorem sc_rounds : FnScope N_rounds ["gear"] (defScope st_rounds) := ⟨rfl, rfl, rfl, by decide +kernel, rfl, by decide +kernel, by decide +kernel⟩
section
variable {P : Program} {w : World} {K : Fg} {mg : Str → Option Value} {base : Heap}
theorem ok_rounds (Z : Df K mg "rounds" st_rounds) (c_check_gear : Cal P w K mg base "check_gear" ["value"] 3 (spF K (FM m_check_gear))) (c_rounds_of : Cal P w K mg base "rounds_of" ["gear"] 3 (spF K (FM m_rounds_of))) : Cal P w K mg base "rounds" ["gear"] 4 (spF K (FM m_rounds)) := by
  refine Z.calM (s := s_rounds) sc_rounds (fun _ _ _ _ _ _ us hl => match us, hl with | [_], _ => rfl) rfl (fun f cdv A outer s H E hr => ?_)
  refine ⟨_, (pss_cons (ps_expr (pe_cal c_check_gear (hr.mono (by decide)) px (pa_cons (pv 0) pa_nil)))
    (pss_one (ps_ret (pe_cal c_rounds_of (hr.mono (by decide)) px (pa_cons (pv 0) pa_nil))))), ?_⟩
  try dsimp only [cxOf]
  exact (ys_seq (ys_drop (yt_call (ya_cs (yt_var (i := 0)) ya_nl)))
    (ys_ret (yt_call (ya_cs (yt_var (i := 0)) ya_nl))))
end
abbrev st_law : Stmt := topS 27
abbrev N_law : List Str := ["_law_script", "_law_draws", "_law_gear_here", "_law_start_here", "_law_arcs", "_law_due", "_law_numbers", "_law_at", "_law_arc", "_law_step", "_law_tooth", "_law_even", "_law_need", "_law_more", "_law_far", "_law_moved"]
theorem sc_law : FnScope N_law ["_law_script"] (defScope st_law) := ⟨rfl, rfl, rfl, by decide +kernel, rfl, by decide +kernel, by decide +kernel⟩
section
variable {P : Program} {w : World} {K : Fg} {mg : Str → Option Value} {base : Heap}
theorem ok_law {f0 : Addr} {fd0 : FuncData} (Z : DfA K mg "law" st_law f0 fd0) (c__law_start : Cal P w K mg base "_law_start" ["_law_script"] 1 (spStart K)) (c__law_gear : Cal P w K mg base "_law_gear" ["_law_draws"] 3 (spGear K)) (c__law_draw : Cal P w K mg base "_law_draw" ["_law_draws", "_law_limit"] 1 spDraw) (c_cover : Cal P w K mg base "cover" ["gear", "start", "arcs"] 4 (spF K (FM m_cover))) (c_all_covered_after : Cal P w K mg base "all_covered_after" ["gear"] 4 (spF K (FM m_all_covered_after))) (c_arcs_over : Cal P w K mg base "arcs_over" ["gear", "start", "arcs", "tooth"] 4 (spF K (FM m_arcs_over))) (c_petals : Cal P w K mg base "petals" ["gear"] 4 (spF K (FM m_petals))) (c__law_pick : Cal P w K mg base "_law_pick" ["_law_draws", "_law_choices"] 2 (spPick K)) (c_rounds : Cal P w K mg base "rounds" ["gear"] 4 (spF K (FM m_rounds))) (m_range : mg "range" = none) (m_sum : mg "sum" = none) (m_min : mg "min" = none) (m_len : mg "len" = none) (m_sorted : mg "sorted" = none) (m_max : mg "max" = none) (hlaw : ∀ ns : List Int, ns.length ≤ 63 → (s_law (.val (.list (ns.map .int)) :: List.replicate 15 .no)).all (fun out => ∃ ρ, out = .rt (.val (.bool true)) ρ) (fun _ _ => False)) : FnOk P w K mg base (L2.CX P w) 5 f0 fd0 ["_law_script"] (spLaw K) := by
  refine Z.cal sc_law (fun _ _ _ _ _ _ us hl => match us, hl with | [_], _ => rfl) len_law (fun f cdv A outer s H vs Q E hr hf => ?_)
  refine ⟨_, (pss_cons (ps_set (i := 1) sc_law.nd rfl (.inl rfl) (pe_cal c__law_start (hr.mono (by decide)) px (pa_cons (pv 0) pa_nil)))
    (pss_cons (ps_set (i := 2) sc_law.nd rfl (.inl rfl) (pe_cal c__law_gear (hr.mono (by decide)) px (pa_cons (pv 1) pa_nil)))
    (pss_cons (ps_par (i := 3) (j := 4) rfl sc_law.nd rfl rfl (by decide) rfl rfl (pa_cons (pe_cal c__law_draw (hr.mono (by decide)) px (pa_cons (pv 1) (pa_cons (pe_ix ix_seq (pv 2) pe_int (fun _ _ => rfl)) pa_nil))) (pa_cons (pe_cal c__law_draw (hr.mono (by decide)) px (pa_cons (pv 1) (pa_cons (pe_cal c__law_pick (hr.mono (by decide)) px (pa_cons (pv 1) (pa_cons (pe_lst (pa_cons pe_int (pa_cons pe_int pa_nil))) pa_nil))) pa_nil))) pa_nil)) rfl)
    (pss_cons (ps_set (i := 5) sc_law.nd rfl (.inl rfl) (pe_op op_rep (pe_lst (pa_cons pe_int pa_nil)) (pe_ix ix_seq (pv 2) pe_int (fun _ _ => rfl))))
    (pss_cons (ps_setLc (i := 6) (own := [("_law_tooth", 10)]) rfl sc_law.nd rfl rfl (sw_true rfl rfl rfl (by decide +kernel))  (pi_range1 rfl m_range (pa_cons (pe_ix ix_seq (pv 2) pe_int (fun _ _ => rfl)) pa_nil)) (blkOk_by (own := [("_law_tooth", 10)]) (N := N_law) (sc := (defScope st_law)) (by decide +kernel)) (fun _ _ _ _ _ => (pg_name (i := 10) sc_law.nd rfl (.inl rfl) (.inr rfl))) (fun _ _ _ _ _ => pts_nil) (fun _ _ _ _ _ => (pe_lst pa_nil)))
    (pss_cons (ps_set (i := 7) sc_law.nd rfl (.inl rfl) (pv 3))
    (pss_cons (ps_for (passes_of rfl) rfl (pi_range1 rfl m_range (pa_cons (pv 4) pa_nil)) (pg_name (i := 8) sc_law.nd rfl (.inl rfl)) (pss_one (ps_for (passes_of rfl) rfl (pi_range1 rfl m_range (pa_cons (pe_ix ix_seq (pv 2) pe_int (fun _ _ => rfl)) pa_nil)) (pg_name (i := 9) sc_law.nd rfl (.inl rfl)) (pss_cons (ps_asg (pe_op op_add (pe_ix ix_seq (pv 5) (pv 7) (fun _ _ => rfl)) pe_int) (pg_sub (pv 5) (pv 7) set_list))
    (pss_cons (ps_expr (pe_bm PySem.F.plainAttrs_list PySem.F.slot_list_append PySem.F.type_list_append mt_append (pe_ix ix_seq (pv 6) (pv 7) (fun _ _ => rfl)) (pa_cons (pv 8) pa_nil)))
    (pss_one (ps_set (i := 7) sc_law.nd rfl (.inl rfl) (pe_op op_mod (pe_op op_add (pv 7) pe_int) (pe_ix ix_seq (pv 2) pe_int (fun _ _ => rfl))))))))))
    (pss_cons (ps_if (PW.pt (pw_or (pt_cmpR (op_neD hr.units) (pe_cal c_cover (hr.mono (by decide)) px (pa_cons (pv 2) (pa_cons (pv 3) (pa_cons (pv 4) pa_nil)))) (pv 5) (nomark _)) (pw_or1 (pt_cmpR (op_neD hr.units) (pe_callB (cr_sumK' (K := K) rfl rfl) rfl m_sum (by decide +kernel) (pa_cons (pv 5) pa_nil)) (pe_op op_mul (pv 4) (pe_ix ix_seq (pv 2) pe_int (fun _ _ => rfl))) (nomark _))))) (pss_one (ps_ret pe_bl)) pss_nil)
    (pss_cons (ps_set (i := 10) sc_law.nd rfl (.inl rfl) (pe_cal c__law_draw (hr.mono (by decide)) px (pa_cons (pv 1) (pa_cons (pe_ix ix_seq (pv 2) pe_int (fun _ _ => rfl)) pa_nil))))
    (pss_cons (ps_if (pt_cmpR (op_neD hr.units) (pe_cal c_arcs_over (hr.mono (by decide)) px (pa_cons (pv 2) (pa_cons (pv 3) (pa_cons (pv 4) (pa_cons (pv 10) pa_nil))))) (pe_ix ix_seq (pv 6) (pv 10) (fun _ _ => rfl)) (nomark _)) (pss_one (ps_ret pe_bl)) pss_nil)
    (pss_cons (ps_set (i := 11) sc_law.nd rfl (.inl rfl) (pe_cal c_cover (hr.mono (by decide)) px (pa_cons (pv 2) (pa_cons (pv 3) (pa_cons (pe_cal c_petals (hr.mono (by decide)) px (pa_cons (pv 2) pa_nil)) pa_nil)))))
    (pss_cons (ps_if (pt_cmpR (op_neD hr.units) (pv 11) (pe_op op_rep (pe_lst (pa_cons (pe_cal c_rounds (hr.mono (by decide)) px (pa_cons (pv 2) pa_nil)) pa_nil)) (pe_ix ix_seq (pv 2) pe_int (fun _ _ => rfl))) (nomark _)) (pss_one (ps_ret pe_bl)) pss_nil)
    (pss_cons (ps_set (i := 12) sc_law.nd rfl (.inl rfl) (pe_cal c_all_covered_after (hr.mono (by decide)) px (pa_cons (pv 2) pa_nil)))
    (pss_cons (ps_if (PW.pt (pw_or (pt_cmpR op_lt (pe_callB (cr_minK' (K := K) rfl rfl) rfl m_min (by decide +kernel) (pa_cons (pe_cal c_cover (hr.mono (by decide)) px (pa_cons (pv 2) (pa_cons (pv 3) (pa_cons (pv 12) pa_nil)))) pa_nil)) pe_int (nomark _)) (pw_or1 (PW.pt (pw_and (pt_cmpR op_gt (pv 12) pe_int (nomark _)) (pw_and1 (pt_cmpR op_gt (pe_callB (cr_minK' (K := K) rfl rfl) rfl m_min (by decide +kernel) (pa_cons (pe_cal c_cover (hr.mono (by decide)) px (pa_cons (pv 2) (pa_cons (pv 3) (pa_cons (pe_op op_sub (pv 12) pe_int) pa_nil)))) pa_nil)) pe_int (nomark _)))))))) (pss_one (ps_ret pe_bl)) pss_nil)
    (pss_cons (ps_set (i := 13) sc_law.nd rfl (.inl rfl) (pe_cal c_cover (hr.mono (by decide)) px (pa_cons (pv 2) (pa_cons (pv 3) (pa_cons (pe_op op_add (pv 4) pe_int) pa_nil)))))
    (pss_cons (ps_if (PW.pt (pw_or (pt_cmpR (op_neD hr.units) (pe_op op_sub (pe_callB (cr_sumK' (K := K) rfl rfl) rfl m_sum (by decide +kernel) (pa_cons (pv 13) pa_nil)) (pe_callB (cr_sumK' (K := K) rfl rfl) rfl m_sum (by decide +kernel) (pa_cons (pv 5) pa_nil))) (pe_ix ix_seq (pv 2) pe_int (fun _ _ => rfl)) (nomark _)) (pw_or1 (pt_cmpR op_gt (pe_op op_sub (pe_callB (cr_maxK' (K := K) rfl rfl) rfl m_max (by decide +kernel) (pa_cons (pe_op op_cat (pv 5) (pe_lst (pa_cons pe_int pa_nil))) pa_nil)) (pe_callB (cr_minK' (K := K) rfl rfl) rfl m_min (by decide +kernel) (pa_cons (pv 5) pa_nil))) pe_int (nomark _))))) (pss_one (ps_ret pe_bl)) pss_nil)
    (pss_cons (ps_set (i := 14) sc_law.nd rfl (.inl rfl) (pe_cal c_arcs_over (hr.mono (by decide)) px (pa_cons (pv 2) (pa_cons (pv 3) (pa_cons (pe_cal c_petals (hr.mono (by decide)) px (pa_cons (pv 2) pa_nil)) (pa_cons (pv 10) pa_nil))))))
    (pss_cons (ps_if (PW.pt (pw_or (pt_cmpR (op_neD hr.units) (pe_callB call_len rfl m_len (by decide +kernel) (pa_cons (pv 14) pa_nil)) (pe_cal c_rounds (hr.mono (by decide)) px (pa_cons (pv 2) pa_nil)) (nomark _)) (pw_or (pt_cmpR (op_neD hr.units) (pv 14) (pe_callB (cr_sortedIK' (K := K) rfl) rfl m_sorted (by decide +kernel) (pa_cons (pv 14) pa_nil)) (nomark _)) (pw_or1 (pt_cmpR op_ge (pe_callB (cr_maxK' (K := K) rfl rfl) rfl m_max (by decide +kernel) (pa_cons (pv 14) pa_nil)) (pe_cal c_petals (hr.mono (by decide)) px (pa_cons (pv 2) pa_nil)) (nomark _)))))) (pss_one (ps_ret pe_bl)) pss_nil)
    (pss_cons (ps_set (i := 15) sc_law.nd rfl (.inl rfl) (pe_cal c_cover (hr.mono (by decide)) px (pa_cons (pv 2) (pa_cons (pe_op op_mod (pe_op op_add (pv 3) pe_int) (pe_ix ix_seq (pv 2) pe_int (fun _ _ => rfl))) (pa_cons (pv 4) pa_nil)))))
    (pss_one (ps_ret (pe_and (pe_cmpR (op_eqD hr.units) (pe_op op_cat (pe_slice sl_list (pv 15) (po_some pe_int) po_none) (pe_slice sl_list (pv 15) po_none (po_some pe_int))) (pv 5) (nomark _)) (pe_and (pe_cmpR (op_eqD hr.units) (pe_cal c_cover (hr.mono (by decide)) px (pa_cons (pv 2) (pa_cons (pv 3) (pa_cons pe_int pa_nil)))) (pe_op op_rep (pe_lst (pa_cons pe_int pa_nil)) (pe_ix ix_seq (pv 2) pe_int (fun _ _ => rfl))) (nomark _)) (pe_one (pe_cmpR (op_eqD hr.units) (pe_cal c_arcs_over (hr.mono (by decide)) px (pa_cons (pv 2) (pa_cons (pv 3) (pa_cons pe_int (pa_cons (pv 10) pa_nil))))) (pe_lst pa_nil) (nomark _)))))))))))))))))))))))))), ?_⟩
  try dsimp only [cxOf]
  refine law_go ?_ hf hlaw rfl
  exact (ys_seq (ys_start (i := 0) (j := 1))
    (ys_seq (yws_set (i := 2) (yw_gear (i := 1)))
    (ys_seq (yws_par (i := 3) (j := 4) (yw_draw (i := 1) (yw_p (yf_t (yt_op (yt_var (i := 2)) yt_int ho_ix)))) (yw_draw (i := 1) (yw_pick (i := 1) (yw_p (yf_lst (yaf_cs yf_int (yaf_cs yf_int yaf_nl)))))))
    (ys_seq (ys_own (i := 5) (yn_rep (yl_n (yn_lst' (ya_cs yt_int ya_nl))) (yt_op (yt_var (i := 2)) yt_int ho_ix)))
    (ys_seq (ys_ll (i := 6) (yi_r1 (yt_op (yt_var (i := 2)) yt_int ho_ix)) ytg_one yb_yes (yn_lst' ya_nl))
    (ys_seq (ys_set (i := 7) (yf_var (i := 3)))
    (ys_seq (ys_for (yi_r1 (yt_var (i := 4))) ytg_one (ys_for (yi_r1 (yt_op (yt_var (i := 2)) yt_int ho_ix)) ytg_one (ys_seq (ys_put (i := 5) (yt_op (yt_op (yt_var (i := 5)) (yt_var (i := 7)) ho_ix) yt_int ho_add) (yt_var (i := 7)))
    (ys_seq (ys_llapp (i := 6) (yt_var (i := 7)) (yt_var (i := 8)))
    (ys_set (i := 7) (yf_t (yt_op (yt_op (yt_var (i := 7)) yt_int ho_add) (yt_op (yt_var (i := 2)) yt_int ho_ix) ho_mod)))))))
    (ys_seq (ys_if (yb_or (yb_test (yt_op (yt_n (yn_call' (ya_cs (yt_var (i := 2)) (ya_cs (yt_var (i := 3)) (ya_cs (yt_var (i := 4)) ya_nl))))) (yt_var (i := 5)) ho_ne)) (yb_test (yt_op (yt_cb (ya_cs (yt_var (i := 5)) ya_nl) hc_sum) (yt_op (yt_var (i := 4)) (yt_op (yt_var (i := 2)) yt_int ho_ix) ho_mul) ho_ne))) (ys_ret yt_bl) ys_next)
    (ys_seq (yws_set (i := 10) (yw_draw (i := 1) (yw_p (yf_t (yt_op (yt_var (i := 2)) yt_int ho_ix)))))
    (ys_seq (ys_if (yb_test (yt_op (yt_n (yn_call' (ya_cs (yt_var (i := 2)) (ya_cs (yt_var (i := 3)) (ya_cs (yt_var (i := 4)) (ya_cs (yt_var (i := 10)) ya_nl)))))) (yt_llx (i := 6) (yt_var (i := 10))) ho_ne)) (ys_ret yt_bl) ys_next)
    (ys_seq (ys_set (i := 11) (yf_n (yn_call' (ya_cs (yt_var (i := 2)) (ya_cs (yt_var (i := 3)) (ya_cs (yt_call (ya_cs (yt_var (i := 2)) ya_nl)) ya_nl))))))
    (ys_seq (ys_if (yb_test (yt_op (yt_var (i := 11)) (yt_n (yn_rep (yl_n (yn_lst' (ya_cs (yt_call (ya_cs (yt_var (i := 2)) ya_nl)) ya_nl))) (yt_op (yt_var (i := 2)) yt_int ho_ix))) ho_ne)) (ys_ret yt_bl) ys_next)
    (ys_seq (ys_set (i := 12) (yf_t (yt_call (ya_cs (yt_var (i := 2)) ya_nl))))
    (ys_seq (ys_if (yb_or (yb_test (yt_op (yt_cb (ya_cs (yt_n (yn_call' (ya_cs (yt_var (i := 2)) (ya_cs (yt_var (i := 3)) (ya_cs (yt_var (i := 12)) ya_nl))))) ya_nl) hc_min1) yt_int ho_lt)) (yb_and (yb_test (yt_op (yt_var (i := 12)) yt_int ho_gt)) (yb_test (yt_op (yt_cb (ya_cs (yt_n (yn_call' (ya_cs (yt_var (i := 2)) (ya_cs (yt_var (i := 3)) (ya_cs (yt_op (yt_var (i := 12)) yt_int ho_sub) ya_nl))))) ya_nl) hc_min1) yt_int ho_gt)))) (ys_ret yt_bl) ys_next)
    (ys_seq (ys_set (i := 13) (yf_n (yn_call' (ya_cs (yt_var (i := 2)) (ya_cs (yt_var (i := 3)) (ya_cs (yt_op (yt_var (i := 4)) yt_int ho_add) ya_nl))))))
    (ys_seq (ys_if (yb_or (yb_test (yt_op (yt_op (yt_cb (ya_cs (yt_var (i := 13)) ya_nl) hc_sum) (yt_cb (ya_cs (yt_var (i := 5)) ya_nl) hc_sum) ho_sub) (yt_op (yt_var (i := 2)) yt_int ho_ix) ho_ne)) (yb_test (yt_op (yt_op (yt_cb (ya_cs (yt_n (yn_cat (yl_var (i := 5)) (yl_n (yn_lst' (ya_cs yt_int ya_nl))))) ya_nl) hc_max1) (yt_cb (ya_cs (yt_var (i := 5)) ya_nl) hc_min1) ho_sub) yt_int ho_gt))) (ys_ret yt_bl) ys_next)
    (ys_seq (ys_set (i := 14) (yf_n (yn_call' (ya_cs (yt_var (i := 2)) (ya_cs (yt_var (i := 3)) (ya_cs (yt_call (ya_cs (yt_var (i := 2)) ya_nl)) (ya_cs (yt_var (i := 10)) ya_nl)))))))
    (ys_seq (ys_if (yb_or (yb_test (yt_op (yt_cb (ya_cs (yt_var (i := 14)) ya_nl) hc_len) (yt_call (ya_cs (yt_var (i := 2)) ya_nl)) ho_ne)) (yb_or (yb_test (yt_op (yt_var (i := 14)) (yt_n (yn_cb' (ya_cs (yt_var (i := 14)) ya_nl) hcn_sort)) ho_ne)) (yb_test (yt_op (yt_cb (ya_cs (yt_var (i := 14)) ya_nl) hc_max1) (yt_call (ya_cs (yt_var (i := 2)) ya_nl)) ho_ge)))) (ys_ret yt_bl) ys_next)
    (ys_seq (ys_set (i := 15) (yf_n (yn_call' (ya_cs (yt_var (i := 2)) (ya_cs (yt_op (yt_op (yt_var (i := 3)) yt_int ho_add) (yt_op (yt_var (i := 2)) yt_int ho_ix) ho_mod) (ya_cs (yt_var (i := 4)) ya_nl))))))
    (ys_ret (yt_andV (yt_op (yt_n (yn_cat (yl_n (yn_slL (yt_var (i := 15)) (yo_some' yt_int) yo_none')) (yl_n (yn_slL (yt_var (i := 15)) yo_none' (yo_some' yt_int))))) (yt_var (i := 5)) ho_eq) (yt_andV (yt_op (yt_n (yn_call' (ya_cs (yt_var (i := 2)) (ya_cs (yt_var (i := 3)) (ya_cs yt_int ya_nl))))) (yt_n (yn_rep (yl_n (yn_lst' (ya_cs yt_int ya_nl))) (yt_op (yt_var (i := 2)) yt_int ho_ix))) ho_eq) (yt_op (yt_n (yn_call' (ya_cs (yt_var (i := 2)) (ya_cs (yt_var (i := 3)) (ya_cs yt_int (ya_cs (yt_var (i := 10)) ya_nl)))))) (yt_n (yn_lst' ya_nl)) ho_eq)))))))))))))))))))))))
end

/-! ### the head -/
def D__law_start : He.DefD := ⟨("_law_start", none), "_law_start", "_law_start", defArgs st__law_start, defBody st__law_start, defScope st__law_start, [], []⟩
def D__law_draw : He.DefD := ⟨("_law_draw", none), "_law_draw", "_law_draw", defArgs st__law_draw, defBody st__law_draw, defScope st__law_draw, [], []⟩
def D__law_pick : He.DefD := ⟨("_law_pick", none), "_law_pick", "_law_pick", defArgs st__law_pick, defBody st__law_pick, defScope st__law_pick, [], []⟩
def D__law_gear : He.DefD := ⟨("_law_gear", none), "_law_gear", "_law_gear", defArgs st__law_gear, defBody st__law_gear, defScope st__law_gear, [], []⟩
def D_is_int : He.DefD := ⟨("is_int", none), "is_int", "is_int", defArgs st_is_int, defBody st_is_int, defScope st_is_int, [], []⟩
def D_is_gear : He.DefD := ⟨("is_gear", none), "is_gear", "is_gear", defArgs st_is_gear, defBody st_is_gear, defScope st_is_gear, [], []⟩
def D_check_gear : He.DefD := ⟨("check_gear", none), "check_gear", "check_gear", defArgs st_check_gear, defBody st_check_gear, defScope st_check_gear, [], []⟩
def D_check_tooth : He.DefD := ⟨("check_tooth", none), "check_tooth", "check_tooth", defArgs st_check_tooth, defBody st_check_tooth, defScope st_check_tooth, [], []⟩
def D_check_arcs : He.DefD := ⟨("check_arcs", none), "check_arcs", "check_arcs", defArgs st_check_arcs, defBody st_check_arcs, defScope st_check_arcs, [], []⟩
def D_cover_of : He.DefD := ⟨("cover_of", none), "cover_of", "cover_of", defArgs st_cover_of, defBody st_cover_of, defScope st_cover_of, [], []⟩
def D_cover : He.DefD := ⟨("cover", none), "cover", "cover", defArgs st_cover, defBody st_cover, defScope st_cover, [], []⟩
def D_all_covered_after : He.DefD := ⟨("all_covered_after", none), "all_covered_after", "all_covered_after", defArgs st_all_covered_after, defBody st_all_covered_after, defScope st_all_covered_after, [], []⟩
def D_arcs_over : He.DefD := ⟨("arcs_over", none), "arcs_over", "arcs_over", defArgs st_arcs_over, defBody st_arcs_over, defScope st_arcs_over, [], []⟩
def D_common : He.DefD := ⟨("common", none), "common", "common", defArgs st_common, defBody st_common, defScope st_common, [], []⟩
def D_shared_of : He.DefD := ⟨("shared_of", none), "shared_of", "shared_of", defArgs st_shared_of, defBody st_shared_of, defScope st_shared_of, [], []⟩
def D_petals_of : He.DefD := ⟨("petals_of", none), "petals_of", "petals_of", defArgs st_petals_of, defBody st_petals_of, defScope st_petals_of, [], []⟩
def D_petals : He.DefD := ⟨("petals", none), "petals", "petals", defArgs st_petals, defBody st_petals, defScope st_petals, [], []⟩
def D_rounds_of : He.DefD := ⟨("rounds_of", none), "rounds_of", "rounds_of", defArgs st_rounds_of, defBody st_rounds_of, defScope st_rounds_of, [], []⟩
def D_rounds : He.DefD := ⟨("rounds", none), "rounds", "rounds", defArgs st_rounds, defBody st_rounds, defScope st_rounds, [], []⟩
def D_law : He.DefD := ⟨("law", none), "law", "law", defArgs st_law, defBody st_law, defScope st_law, [], []⟩
def fnL : List He.DefD := [D__law_start, D__law_draw, D__law_pick, D__law_gear, D_is_int, D_is_gear, D_check_gear, D_check_tooth, D_check_arcs, D_cover_of, D_cover, D_all_covered_after, D_arcs_over, D_common, D_shared_of, D_petals_of, D_petals, D_rounds_of, D_rounds, D_law]
def faL : List He.Fa := [.glo "_law_start", .glo "_law_draw", .glo "_law_pick", .glo "_law_gear", .glo "is_int", .glo "is_gear", .glo "check_gear", .glo "check_tooth", .glo "check_arcs", .glo "cover_of", .glo "cover", .glo "all_covered_after", .glo "arcs_over", .glo "common", .glo "shared_of", .glo "petals_of", .glo "petals", .glo "rounds_of", .glo "rounds", .glo "law", .free "list", .free "len", .free "min", .free "isinstance", .free "int", .free "bool", .free "tuple", .free "str", .free "range", .free "sum", .free "sorted", .free "max", .glo "BadGear", .exc "BadGear", .glo "BadTooth", .exc "BadTooth", .glo "BadNumber", .exc "BadNumber"]
abbrev R : PySem.W.OpenRow := PySem.W.OpenLaw.row PySem.Challenge.rw_wheelcurves_k05_whole_cover
abbrev hk : PySem.W.Hook := He.hookD 4 faL fnL
def ob (s : PySem.W.SharedT) : He.AlD := He.obsDG 4 faL fnL (HandSHeadRun.getT s)
theorem ob_eq (s : PySem.W.SharedT) : ob s = hk.obs s.abs := He.obsDG_eq (HandSHeadRun.getT_eq s)
def loose0 : List Str := ["WheelError", "BadGear", "BadTooth", "BadNumber", "is_int", "common", "is_gear", "check_gear", "check_tooth", "check_arcs", "cover_of", "cover", "arcs_over", "all_covered_after", "shared_of", "petals_of", "petals", "rounds_of", "rounds", "_law_start", "_law_draw", "_law_pick", "_law_gear"]
def looseL : List Str := loose0
theorem run (w : World) : HandSHeadRun.RunEq R (PySem.W.view R.prog [27]) hk ob 6000 looseL w := by
  intro os
  kernel_rfl
theorem facts {P : Program} {w : World} {K : PySem.W.Frag} {h : Heap} {mg : Str → Option Value} {f : Addr} (X : K.In h) (G : h.Ns mainGlobals mg) (hfa : mg ("law" : Str) = some (.ref f)) (c : He.SaysD faL fnL K) :
    ∃ fd : FuncData, (∀ (s : Shared) (v : Value), BindsTo s fd ⟨[v], []⟩ [("_law_script", v)]) ∧ ∀ base : Heap, K.In base → base.Ns mainGlobals mg → FnOk P w K mg base (L2.CX P w) 5 f fd ["_law_script"] (spLaw K) := by
  have d__law_start : Df K mg "_law_start" st__law_start := by
    obtain ⟨fd, F⟩ := c.def_ 0 (d := D__law_start) rfl
    exact ⟨_, fd, F, He.glo_ok X G (c.fact 0 (f := .glo "_law_start") rfl)⟩
  have d__law_draw : Df K mg "_law_draw" st__law_draw := by
    obtain ⟨fd, F⟩ := c.def_ 1 (d := D__law_draw) rfl
    exact ⟨_, fd, F, He.glo_ok X G (c.fact 1 (f := .glo "_law_draw") rfl)⟩
  have d__law_pick : Df K mg "_law_pick" st__law_pick := by
    obtain ⟨fd, F⟩ := c.def_ 2 (d := D__law_pick) rfl
    exact ⟨_, fd, F, He.glo_ok X G (c.fact 2 (f := .glo "_law_pick") rfl)⟩
  have d__law_gear : Df K mg "_law_gear" st__law_gear := by
    obtain ⟨fd, F⟩ := c.def_ 3 (d := D__law_gear) rfl
    exact ⟨_, fd, F, He.glo_ok X G (c.fact 3 (f := .glo "_law_gear") rfl)⟩
  have d_is_int : Df K mg "is_int" st_is_int := by
    obtain ⟨fd, F⟩ := c.def_ 4 (d := D_is_int) rfl
    exact ⟨_, fd, F, He.glo_ok X G (c.fact 4 (f := .glo "is_int") rfl)⟩
  have d_is_gear : Df K mg "is_gear" st_is_gear := by
    obtain ⟨fd, F⟩ := c.def_ 5 (d := D_is_gear) rfl
    exact ⟨_, fd, F, He.glo_ok X G (c.fact 5 (f := .glo "is_gear") rfl)⟩
  have d_check_gear : Df K mg "check_gear" st_check_gear := by
    obtain ⟨fd, F⟩ := c.def_ 6 (d := D_check_gear) rfl
    exact ⟨_, fd, F, He.glo_ok X G (c.fact 6 (f := .glo "check_gear") rfl)⟩
  have d_check_tooth : Df K mg "check_tooth" st_check_tooth := by
    obtain ⟨fd, F⟩ := c.def_ 7 (d := D_check_tooth) rfl
    exact ⟨_, fd, F, He.glo_ok X G (c.fact 7 (f := .glo "check_tooth") rfl)⟩
  have d_check_arcs : Df K mg "check_arcs" st_check_arcs := by
    obtain ⟨fd, F⟩ := c.def_ 8 (d := D_check_arcs) rfl
    exact ⟨_, fd, F, He.glo_ok X G (c.fact 8 (f := .glo "check_arcs") rfl)⟩
  have d_cover_of : Df K mg "cover_of" st_cover_of := by
    obtain ⟨fd, F⟩ := c.def_ 9 (d := D_cover_of) rfl
    exact ⟨_, fd, F, He.glo_ok X G (c.fact 9 (f := .glo "cover_of") rfl)⟩
  have d_cover : Df K mg "cover" st_cover := by
    obtain ⟨fd, F⟩ := c.def_ 10 (d := D_cover) rfl
    exact ⟨_, fd, F, He.glo_ok X G (c.fact 10 (f := .glo "cover") rfl)⟩
  have d_all_covered_after : Df K mg "all_covered_after" st_all_covered_after := by
    obtain ⟨fd, F⟩ := c.def_ 11 (d := D_all_covered_after) rfl
    exact ⟨_, fd, F, He.glo_ok X G (c.fact 11 (f := .glo "all_covered_after") rfl)⟩
  have d_arcs_over : Df K mg "arcs_over" st_arcs_over := by
    obtain ⟨fd, F⟩ := c.def_ 12 (d := D_arcs_over) rfl
    exact ⟨_, fd, F, He.glo_ok X G (c.fact 12 (f := .glo "arcs_over") rfl)⟩
  have d_common : Df K mg "common" st_common := by
    obtain ⟨fd, F⟩ := c.def_ 13 (d := D_common) rfl
    exact ⟨_, fd, F, He.glo_ok X G (c.fact 13 (f := .glo "common") rfl)⟩
  have d_shared_of : Df K mg "shared_of" st_shared_of := by
    obtain ⟨fd, F⟩ := c.def_ 14 (d := D_shared_of) rfl
    exact ⟨_, fd, F, He.glo_ok X G (c.fact 14 (f := .glo "shared_of") rfl)⟩
  have d_petals_of : Df K mg "petals_of" st_petals_of := by
    obtain ⟨fd, F⟩ := c.def_ 15 (d := D_petals_of) rfl
    exact ⟨_, fd, F, He.glo_ok X G (c.fact 15 (f := .glo "petals_of") rfl)⟩
  have d_petals : Df K mg "petals" st_petals := by
    obtain ⟨fd, F⟩ := c.def_ 16 (d := D_petals) rfl
    exact ⟨_, fd, F, He.glo_ok X G (c.fact 16 (f := .glo "petals") rfl)⟩
  have d_rounds_of : Df K mg "rounds_of" st_rounds_of := by
    obtain ⟨fd, F⟩ := c.def_ 17 (d := D_rounds_of) rfl
    exact ⟨_, fd, F, He.glo_ok X G (c.fact 17 (f := .glo "rounds_of") rfl)⟩
  have d_rounds : Df K mg "rounds" st_rounds := by
    obtain ⟨fd, F⟩ := c.def_ 18 (d := D_rounds) rfl
    exact ⟨_, fd, F, He.glo_ok X G (c.fact 18 (f := .glo "rounds") rfl)⟩
  have m_list : mg "list" = none := He.free_ok X G (c.fact 20 (f := .free "list") rfl)
  have m_len : mg "len" = none := He.free_ok X G (c.fact 21 (f := .free "len") rfl)
  have m_min : mg "min" = none := He.free_ok X G (c.fact 22 (f := .free "min") rfl)
  have m_isinstance : mg "isinstance" = none := He.free_ok X G (c.fact 23 (f := .free "isinstance") rfl)
  have m_int : mg "int" = none := He.free_ok X G (c.fact 24 (f := .free "int") rfl)
  have m_bool : mg "bool" = none := He.free_ok X G (c.fact 25 (f := .free "bool") rfl)
  have m_tuple : mg "tuple" = none := He.free_ok X G (c.fact 26 (f := .free "tuple") rfl)
  have m_str : mg "str" = none := He.free_ok X G (c.fact 27 (f := .free "str") rfl)
  have m_range : mg "range" = none := He.free_ok X G (c.fact 28 (f := .free "range") rfl)
  have m_sum : mg "sum" = none := He.free_ok X G (c.fact 29 (f := .free "sum") rfl)
  have m_sorted : mg "sorted" = none := He.free_ok X G (c.fact 30 (f := .free "sorted") rfl)
  have m_max : mg "max" = none := He.free_ok X G (c.fact 31 (f := .free "max") rfl)
  have e_BadGear : ExF K mg "BadGear" := by
    obtain ⟨z1, z2, z3, z4⟩ := He.exc_ok (c.fact 33 (f := .exc "BadGear") rfl)
    exact ⟨He.glo_ok X G (c.fact 32 (f := .glo "BadGear") rfl), z1, z2, z3, z4⟩
  have e_BadTooth : ExF K mg "BadTooth" := by
    obtain ⟨z1, z2, z3, z4⟩ := He.exc_ok (c.fact 35 (f := .exc "BadTooth") rfl)
    exact ⟨He.glo_ok X G (c.fact 34 (f := .glo "BadTooth") rfl), z1, z2, z3, z4⟩
  have e_BadNumber : ExF K mg "BadNumber" := by
    obtain ⟨z1, z2, z3, z4⟩ := He.exc_ok (c.fact 37 (f := .exc "BadNumber") rfl)
    exact ⟨He.glo_ok X G (c.fact 36 (f := .glo "BadNumber") rfl), z1, z2, z3, z4⟩
  have c__law_start : ∀ base : Heap, Cal P w K mg base "_law_start" ["_law_script"] 1 (spStart K) := fun base => ok__law_start d__law_start m_list
  have c__law_draw : ∀ base : Heap, Cal P w K mg base "_law_draw" ["_law_draws", "_law_limit"] 1 spDraw := fun base => ok__law_draw d__law_draw m_len
  have c__law_pick : ∀ base : Heap, Cal P w K mg base "_law_pick" ["_law_draws", "_law_choices"] 2 (spPick K) := fun base => ok__law_pick d__law_pick (c__law_draw base) m_len
  have c__law_gear : ∀ base : Heap, Cal P w K mg base "_law_gear" ["_law_draws"] 3 (spGear K) := fun base => ok__law_gear d__law_gear (c__law_pick base) (c__law_draw base) m_min
  have c_is_int : ∀ base : Heap, Cal P w K mg base "is_int" ["value", "low", "high"] 1 (spF K (FM m_is_int)) := fun base => ok_is_int d_is_int m_isinstance m_int m_bool
  have c_is_gear : ∀ base : Heap, Cal P w K mg base "is_gear" ["value"] 2 (spF K (FM m_is_gear)) := fun base => ok_is_gear d_is_gear (c_is_int base) m_isinstance m_tuple m_len m_str
  have c_check_gear : ∀ base : Heap, Cal P w K mg base "check_gear" ["value"] 3 (spF K (FM m_check_gear)) := fun base => ok_check_gear d_check_gear (c_is_gear base) e_BadGear
  have c_check_tooth : ∀ base : Heap, Cal P w K mg base "check_tooth" ["gear", "value"] 2 (spF K (FM m_check_tooth)) := fun base => ok_check_tooth d_check_tooth (c_is_int base) e_BadTooth
  have c_check_arcs : ∀ base : Heap, Cal P w K mg base "check_arcs" ["value"] 2 (spF K (FM m_check_arcs)) := fun base => ok_check_arcs d_check_arcs (c_is_int base) e_BadNumber
  have c_cover_of : ∀ base : Heap, Cal P w K mg base "cover_of" ["gear", "start", "arcs"] 1 (spF K (FM m_cover_of)) := fun base => ok_cover_of d_cover_of m_range
  have c_cover : ∀ base : Heap, Cal P w K mg base "cover" ["gear", "start", "arcs"] 4 (spF K (FM m_cover)) := fun base => ok_cover d_cover (c_check_gear base) (c_check_tooth base) (c_check_arcs base) (c_cover_of base)
  have c_all_covered_after : ∀ base : Heap, Cal P w K mg base "all_covered_after" ["gear"] 4 (spF K (FM m_all_covered_after)) := fun base => ok_all_covered_after d_all_covered_after (c_check_gear base)
  have c_arcs_over : ∀ base : Heap, Cal P w K mg base "arcs_over" ["gear", "start", "arcs", "tooth"] 4 (spF K (FM m_arcs_over)) := fun base => ok_arcs_over d_arcs_over (c_check_gear base) (c_check_tooth base) (c_check_arcs base)
  have c_common : ∀ base : Heap, Cal P w K mg base "common" ["one", "other"] 1 (spF K (FM m_common)) := fun base => ok_common d_common
  have c_shared_of : ∀ base : Heap, Cal P w K mg base "shared_of" ["gear"] 2 (spF K (FM m_shared_of)) := fun base => ok_shared_of d_shared_of (c_common base)
  have c_petals_of : ∀ base : Heap, Cal P w K mg base "petals_of" ["gear"] 3 (spF K (FM m_petals_of)) := fun base => ok_petals_of d_petals_of (c_shared_of base)
  have c_petals : ∀ base : Heap, Cal P w K mg base "petals" ["gear"] 4 (spF K (FM m_petals)) := fun base => ok_petals d_petals (c_check_gear base) (c_petals_of base)
  have c_rounds_of : ∀ base : Heap, Cal P w K mg base "rounds_of" ["gear"] 3 (spF K (FM m_rounds_of)) := fun base => ok_rounds_of d_rounds_of (c_shared_of base)
  have c_rounds : ∀ base : Heap, Cal P w K mg base "rounds" ["gear"] 4 (spF K (FM m_rounds)) := fun base => ok_rounds d_rounds (c_check_gear base) (c_rounds_of base)
  obtain ⟨fd, F⟩ := c.def_ 19 (d := D_law) rfl
  have e := hfa.symm.trans (He.glo_ok X G (c.fact 19 (f := .glo "law") rfl))
  cases e
  have b := FunD.bindsA (ps := ["_law_script"]) F fun _ _ _ _ _ _ us hl => match us, hl with | [_], _ => rfl
  exact ⟨fd, fun s v => b s [v] rfl, fun base _ _ => ok_law ⟨F⟩ (c__law_start base) (c__law_gear base) (c__law_draw base) (c_cover base) (c_all_covered_after base) (c_arcs_over base) (c_petals base) (c__law_pick base) (c_rounds base) m_range m_sum m_min m_len m_sorted m_max hlaw⟩
end Wc
open PySem PySem.W PySem.Calls PyProof.Rows
set_option maxRecDepth 100000 in
set_option maxHeartbeats 0 in
theorem PySem.Challenge.cw_wheelcurves_k05_whole_cover_holds : PySem.Challenge.rw_wheelcurves_k05_whole_cover.Holds := by
  w_on; o_law
  refine HandSHeadRun.head_any (r := OpenLaw.row PySem.Challenge.rw_wheelcurves_k05_whole_cover) (q := view (OpenLaw.row PySem.Challenge.rw_wheelcurves_k05_whole_cover).prog [27]) (H := Wc.hk) (ob := Wc.ob) (M := 6000) (loose := Wc.looseL) (d := HandSHeadRun.topDef (OpenLaw.row PySem.Challenge.rw_wheelcurves_k05_whole_cover).prog 27) (kwd := []) Wc.ob_eq
    (by kernel_rfl) (fun s => by kernel_rfl) Wc.run (by kernel_rfl) (by kernel_rfl) (by kernel_rfl) (by rfl) (by first | assumption | decide +kernel) (by decide +kernel) ⟨rfl, rfl, rfl, rfl, rfl, by decide +kernel⟩ ?hw ?hc
  case hw => w_witness2
  case hc =>
    refine L2.walk_ofE (l := PySem.Challenge.rw_wheelcurves_k05_whole_cover) (n := 63) (k := 5) (x := "_law_script") (CX := fun o H s E u s' => ∃ P w, L2.CX P w o H s E u s') rfl (by decide) (by kernel_rfl) ⟨rfl, by decide, by decide⟩ ?F ?C
    case C =>
      intro H s e s' h
      obtain ⟨_, _, _, _, _, _, _, _, _, _, _, _, _, _, z⟩ := h
      exact z.elim
    case F =>
      intro w mg fa h Y G hmg0
      obtain ⟨K, KX, c⟩ := Y
      have hmg : mg ("law" : PySem.Str) = some (.ref fa) := by
        have e : (HandSHeadRun.topDef (OpenLaw.row PySem.Challenge.rw_wheelcurves_k05_whole_cover).prog 27).name = ("law" : PySem.Str) := by kernel_rfl
        rw [← e]
        exact hmg0
      obtain ⟨fd, hb, hF⟩ := Wc.facts (P := (PySem.Challenge.rw_wheelcurves_k05_whole_cover).prog) (w := w) KX G hmg c
      exact ⟨K, fd, Wc.spLaw K, KX, hb, fun H a ns hl _ hS => ⟨a, ns, rfl, hS, hl, fun _ => rfl⟩, fun base k1 k2 => Wc.fnok_any (hF base k1 k2)⟩


