import PyProof.Rows.All
import Wide.All
import OpenK.AllK
import Wide.FinOn
import HandS.ForMost
import HandS.ForExc
import HandS.Evl
import HandS.SortInts
import HandS.SetFor
import HandS.Strs
import HandS.Style
import HandS.Flow
import HandS.IsInst
import HandS.ExcValue
import HandS.ExcIs
import HandS.Defaults
import HandS.Deep
import HandS.FStr
import HandS.Zip
import HandS.TupSets
import HandS.HeadHook1
import HandS.HeadHook2
import HandS.HeadEnd
import HandS.Head0
import HandS.Head1
import HandS.Head2
import KE.SortData
import PySem.Challenge.RW_wheelcurves_k15_whole_directions
set_option Elab.async false
set_option linter.all false
set_option maxRecDepth 100000
set_option maxHeartbeats 4000000
/-! A calculus over plain data (PyData): what an expression's reading gives, whatever is added to the heap. -/
namespace Wc
open PySem PySem.Spec PyProof.Rows L2
abbrev Fg := PySem.W.Frag
abbrev Ex (H H' : Hp) : Prop := Evl.Ex H H'
abbrev Dt := PyData
theorem ex_rfl {H : Hp} : Ex H H := Evl.Ex.refl H
section
variable {K : Fg} {H H' : Hp}
mutual
theorem dp_ex (e : Ex H H') : ∀ {d : Dt} {v : V}, Dp K H v d → Dp K H' v d
  | .none, _, h => by cases h; exact .non
  | .bool _, _, h => by cases h; exact .bl _
  | .int _, _, h => by cases h; exact .int _
  | .str _, _, h => by cases h; exact .str _
  | .list _, _, h => by
    cases h with
    | lst a b => exact .lst (Evl.ex_l e a) (dps_ex e b)
  | .tuple _, _, h => by
    cases h with
    | tup a b => exact .tup (Evl.ex_t e a) (dps_ex e b)
  | .dict _, _, h => by cases h
theorem dps_ex (e : Ex H H') : ∀ {ds : List Dt} {vs : List V}, DpAll K H vs ds → DpAll K H' vs ds
  | [], _, h => by cases h; exact .nil
  | _ :: _, _, h => by
    cases h with
    | cons a b => exact .cons (dp_ex e a) (dps_ex e b)
end
theorem dp_int {v : V} {i : Int} (h : Dp K H v (.int i)) : v = .int i := by cases h; rfl
theorem dp_str {v : V} {x : Str} (h : Dp K H v (.str x)) : v = .str x := by cases h; rfl
theorem dp_bl {v : V} {b : Bool} (h : Dp K H v (.bool b)) : v = .bl b := by cases h; rfl
theorem dp_non {v : V} (h : Dp K H v .none) : v = .non := by cases h; rfl
theorem dp_lst {v : V} {ds : List Dt} (h : Dp K H v (.list ds)) : ∃ a xs, v = .ref a ∧ SqL K H a xs ∧ DpAll K H xs ds := by
  cases h with
  | lst a b => exact ⟨_, _, rfl, a, b⟩
theorem dp_tup {v : V} {ds : List Dt} (h : Dp K H v (.tuple ds)) : ∃ a xs, v = .ref a ∧ SqT K H a xs ∧ DpAll K H xs ds := by
  cases h with
  | tup a b => exact ⟨_, _, rfl, a, b⟩
theorem dps_len : ∀ {vs : List V} {ds : List Dt}, DpAll K H vs ds → vs.length = ds.length
  | _, _, .nil => rfl
  | _, _, .cons _ t => congrArg Nat.succ (dps_len t)
theorem dps_get : ∀ {vs : List V} {ds : List Dt} {i : Nat} {d : Dt}, DpAll K H vs ds → ds[i]? = some d → ∃ v, vs[i]? = some v ∧ Dp K H v d
  | _, _, _, _, .nil, e => by simp at e
  | _, _, 0, _, .cons a _, e => by
    have e' := Option.some.inj e
    subst e'
    exact ⟨_, rfl, a⟩
  | _, _, i + 1, _, .cons _ t, e => by
    obtain ⟨v, h1, h2⟩ := dps_get (i := i) t (by simpa using e)
    exact ⟨v, by simpa using h1, h2⟩
theorem dps_at : ∀ {vs : List V} {ds : List Dt} {i : Nat} {v : V}, DpAll K H vs ds → vs[i]? = some v → ∃ d, ds[i]? = some d ∧ Dp K H v d
  | _, _, _, _, .nil, e => by simp at e
  | _, _, 0, _, .cons a _, e => by
    have e' := Option.some.inj e
    subst e'
    exact ⟨_, rfl, a⟩
  | _, _, i + 1, _, .cons _ t, e => by
    obtain ⟨v, h1, h2⟩ := dps_at (i := i) t (by simpa using e)
    exact ⟨v, by simpa using h1, h2⟩
theorem dps_app : ∀ {xs ys : List V} {ds es : List Dt}, DpAll K H xs ds → DpAll K H ys es → DpAll K H (xs ++ ys) (ds ++ es)
  | _, _, _, _, .nil, s => s
  | _, _, _, _, .cons a t, s => .cons a (dps_app t s)
theorem dps_take : ∀ {xs : List V} {ds : List Dt} (n : Nat), DpAll K H xs ds → DpAll K H (xs.take n) (ds.take n)
  | _, _, 0, _ => .nil
  | _, _, _ + 1, .nil => .nil
  | _, _, n + 1, .cons a t => .cons a (dps_take n t)
theorem dps_drop : ∀ {xs : List V} {ds : List Dt} (n : Nat), DpAll K H xs ds → DpAll K H (xs.drop n) (ds.drop n)
  | _, _, 0, s => s
  | _, _, _ + 1, .nil => .nil
  | _, _, n + 1, .cons _ t => dps_drop n t
theorem dps_rev {xs : List V} {ds : List Dt} (h : DpAll K H xs ds) : DpAll K H xs.reverse ds.reverse := by
  induction xs generalizing ds with
  | nil => cases h; exact .nil
  | cons x r ih =>
    cases h with
    | cons a t =>
      rw [List.reverse_cons, List.reverse_cons]
      exact dps_app (ih t) (.cons a .nil)
theorem dps_ints : ∀ ns : List Int, DpAll K H (ns.map V.int) (ns.map .int)
  | [] => .nil
  | n :: r => .cons (.int n) (dps_ints r)
theorem dps_bls : ∀ ns : List Bool, DpAll K H (ns.map V.bl) (ns.map .bool)
  | [] => .nil
  | n :: r => .cons (.bl n) (dps_bls r)
theorem of_dps_ints : ∀ {ns : List Int} {vs : List V}, DpAll K H vs (ns.map .int) → vs = ns.map V.int
  | [], _, h => by cases h; rfl
  | n :: r, _, h => by
    cases h with
    | cons a t => cases a; exact congrArg _ (of_dps_ints t)
theorem of_dps_bls : ∀ {ns : List Bool} {vs : List V}, DpAll K H vs (ns.map .bool) → vs = ns.map V.bl
  | [], _, h => by cases h; rfl
  | n :: r, _, h => by
    cases h with
    | cons a t => cases a; exact congrArg _ (of_dps_bls t)
theorem dps_nil {vs : List V} (h : DpAll K H vs []) : vs = [] := by cases h; rfl
theorem dps_cons {vs : List V} {d : Dt} {ds : List Dt} (h : DpAll K H vs (d :: ds)) : ∃ v r, vs = v :: r ∧ Dp K H v d ∧ DpAll K H r ds := by
  cases h with
  | cons a b => exact ⟨_, _, rfl, a, b⟩
/-! no list within: such a datum stays when a list changes -/
mutual
def noLst : Dt → Bool
  | .list _ => false
  | .tuple ds => noLsts ds
  | _ => true
def noLsts : List Dt → Bool
  | [] => true
  | d :: ds => noLst d && noLsts ds
end
/-- all but lists stays -/
def Lx (H H' : Hp) : Prop := ∀ a o, H a = some o → (∀ xs, o ≠ .lst xs) → H' a = some o
theorem Lx.rfl' : Lx H H := fun _ _ h _ => h
theorem Lx.of_ex (e : Ex H H') : Lx H H' := fun a o h _ => e a o h
theorem Lx.trans {H1 : Hp} (a : Lx H H1) (b : Lx H1 H') : Lx H H' := fun x o h n => b x o (a x o h n) n
theorem Lx.upd {p : Addr} {xs : List V} {o : HO} (h : H p = some (.lst xs)) : Lx H (upd H p o) := fun a u e n => by
  by_cases q : a = p
  · rw [q, h] at e
    exact absurd (Option.some.inj e).symm (n xs)
  · rw [upd_ne q]; exact e
theorem lx_t {a : Addr} {xs : List V} (e : Lx H H') (h : SqT K H a xs) : SqT K H' a xs := by
  rcases h with (h | ⟨o, h⟩) | h
  · exact .inl (.inl (e a _ h fun _ z => nomatch z))
  · exact .inl (.inr ⟨o, e a _ h fun _ z => nomatch z⟩)
  · exact .inr h
mutual
theorem dp_lx (e : Lx H H') : ∀ {d : Dt} {v : V}, noLst d = true → Dp K H v d → Dp K H' v d
  | .none, _, _, h => by cases h; exact .non
  | .bool _, _, _, h => by cases h; exact .bl _
  | .int _, _, _, h => by cases h; exact .int _
  | .str _, _, _, h => by cases h; exact .str _
  | .list _, _, n, _ => by rw [noLst] at n; cases n
  | .tuple _, _, n, h => by
    rw [noLst] at n
    cases h with
    | tup a b => exact .tup (lx_t e a) (dps_lx e n b)
  | .dict _, _, _, h => by cases h
theorem dps_lx (e : Lx H H') : ∀ {ds : List Dt} {vs : List V}, noLsts ds = true → DpAll K H vs ds → DpAll K H' vs ds
  | [], _, _, h => by cases h; exact .nil
  | _ :: _, _, n, h => by
    rw [noLsts, Bool.and_eq_true] at n
    cases h with
    | cons a b => exact .cons (dp_lx e n.1 a) (dps_lx e n.2 b)
end
theorem noLsts_all : ∀ {ds : List Dt}, (∀ d ∈ ds, noLst d = true) → noLsts ds = true
  | [], _ => by rw [noLsts]
  | d :: ds, h => by
    rw [noLsts, h d List.mem_cons_self, noLsts_all fun x hx => h x (List.mem_cons_of_mem _ hx)] <;> rfl
theorem noLsts_mem : ∀ {ds : List Dt}, noLsts ds = true → ∀ d ∈ ds, noLst d = true
  | [], _, _, h => by cases h
  | d :: ds, n, x, h => by
    rw [noLsts, Bool.and_eq_true] at n
    rcases List.mem_cons.mp h with e | e
    · rw [e]; exact n.1
    · exact noLsts_mem n.2 x e
theorem noLsts_ints (ns : List Int) : noLsts (ns.map .int) = true := noLsts_all fun d h => by
  obtain ⟨i, _, rfl⟩ := List.mem_map.mp h
  simp [noLst]
theorem noLsts_app {ds es : List Dt} (h : noLsts ds = true) (h2 : noLsts es = true) : noLsts (ds ++ es) = true := noLsts_all fun d hd => by
  rcases List.mem_append.mp hd with q | q
  · exact noLsts_mem h d q
  · exact noLsts_mem h2 d q
end

/-! ### what a reading yields -/
def Yd (K : Fg) (te : TE) (σ : L2.St) (H : Hp) (d : Dt) : Prop := ∀ H1, Ex H H1 → ∀ Q : VK, (∀ v H2, Ex H1 H2 → Dp K H2 v d → Q v H2) → te σ H1 Q
/-- a new list -/
def Yn (K : Fg) (te : TE) (σ : L2.St) (H : Hp) (ds : List Dt) : Prop := ∀ H1, Ex H H1 → ∀ Q : VK, (∀ p xs H2, H1 p = none → Ex H1 H2 → H2 p = some (.lst xs) → DpAll K H2 xs ds → Q (.ref p) H2) → te σ H1 Q
def Ya (K : Fg) (ta : TA) (σ : L2.St) (H : Hp) (ds : List Dt) : Prop := ∀ H1, Ex H H1 → ∀ Q : List V → Hp → Prop, (∀ vs H2, Ex H1 H2 → DpAll K H2 vs ds → Q vs H2) → ta σ H1 Q
abbrev Yt (t : TT) (σ : L2.St) (H : Hp) (b : Bool) : Prop := Evl.EvT t σ H b
/-- an optional part of a slice -/
def Yo (to : TO) (σ : L2.St) (H : Hp) (o : Option Int) : Prop := ∀ H1, Ex H H1 → ∀ Q : Option Int → Hp → Prop, (∀ H2, Ex H1 H2 → Q o H2) → to σ H1 Q
/-- two-place, one-place operations, calls, on data -/
def Rd2 (K : Fg) (r : R2) (d e z : Dt) : Prop := ∀ v u H (Q : VK), Dp K H v d → Dp K H u e → (∀ v' H2, Ex H H2 → Dp K H2 v' z → Q v' H2) → r v u H Q
def Rn2 (K : Fg) (r : R2) (d e : Dt) (zs : List Dt) : Prop := ∀ v u H (Q : VK), Dp K H v d → Dp K H u e → (∀ p xs H2, H p = none → Ex H H2 → H2 p = some (.lst xs) → DpAll K H2 xs zs → Q (.ref p) H2) → r v u H Q
def Rd1 (K : Fg) (r : V → Hp → VK → Prop) (d z : Dt) : Prop := ∀ v H (Q : VK), Dp K H v d → (∀ v' H2, Ex H H2 → Dp K H2 v' z → Q v' H2) → r v H Q
def RdC (K : Fg) (r : List V → Hp → VK → Prop) (ds : List Dt) (z : Dt) : Prop := ∀ vs H (Q : VK), DpAll K H vs ds → (∀ v' H2, Ex H H2 → Dp K H2 v' z → Q v' H2) → r vs H Q
def RnC (K : Fg) (r : List V → Hp → VK → Prop) (ds zs : List Dt) : Prop := ∀ vs H (Q : VK), DpAll K H vs ds → (∀ p xs H2, H p = none → Ex H H2 → H2 p = some (.lst xs) → DpAll K H2 xs zs → Q (.ref p) H2) → r vs H Q
section
variable {K : Fg} {σ : L2.St} {H H' : Hp} {ta tb tc te : TE} {t u : TT} {d e z : Dt} {ds zs : List Dt} {v : V} {r : R2}
theorem Yd.mono (x : Ex H H') (h : Yd K te σ H d) : Yd K te σ H' d := fun H1 a Q q => h H1 (x.trans a) Q q
theorem Yn.mono (x : Ex H H') (h : Yn K te σ H ds) : Yn K te σ H' ds := fun H1 a Q q => h H1 (x.trans a) Q q
theorem Ya.mono {t : TA} (x : Ex H H') (h : Ya K t σ H ds) : Ya K t σ H' ds := fun H1 a Q q => h H1 (x.trans a) Q q
theorem Yn.yd (h : Yn K te σ H ds) : Yd K te σ H (.list ds) := fun H1 x Q q => h H1 x Q fun p xs H2 _ e h2 hd => q _ H2 e (.lst (.inl (.inl h2)) hd)
theorem Yd.is (h : Yd K te σ H d) (x : d = e) : Yd K te σ H e := x ▸ h
theorem Yn.is (h : Yn K te σ H ds) (x : ds = zs) : Yn K te σ H zs := x ▸ h
theorem Ya.is {t : TA} (h : Ya K t σ H ds) (x : ds = zs) : Ya K t σ H zs := x ▸ h
theorem yt_is {b c : Bool} (h : Yt t σ H b) (x : b = c) : Yt t σ H c := x ▸ h
theorem yd_var {i : Nat} (h : σ[i]? = some (some v)) (hd : Dp K H v d) : Yd K (tVar i) σ H d := fun H1 x _ q => ⟨v, h, q v H1 ex_rfl (dp_ex x hd)⟩
theorem yd_c (h : ∀ H, Dp K H v d) : Yd K (tC v) σ H d := fun H1 _ _ q => q v H1 ex_rfl (h H1)
theorem yd_int {i : Int} : Yd K (tC (.int i)) σ H (.int i) := yd_c fun _ => .int i
theorem yd_str {x : Str} : Yd K (tC (.str x)) σ H (.str x) := yd_c fun _ => .str x
theorem yd_bl {b : Bool} : Yd K (tC (.bl b)) σ H (.bool b) := yd_c fun _ => .bl b
theorem yd_non : Yd K (tC .non) σ H .none := yd_c fun _ => .non
theorem yd_op (ha : Yd K ta σ H d) (hb : Yd K tb σ H e) (hr : Rd2 K r d e z) : Yd K (tOp r ta tb) σ H z := fun H1 x Q q =>
  ha H1 x _ fun v H2 e2 p2 => hb H2 (x.trans e2) _ fun u H3 e3 p3 => hr v u H3 Q (dp_ex e3 p2) p3 fun v' H4 e4 p4 => q v' H4 ((e2.trans e3).trans e4) p4
theorem yn_op (ha : Yd K ta σ H d) (hb : Yd K tb σ H e) (hr : Rn2 K r d e zs) : Yn K (tOp r ta tb) σ H zs := fun H1 x Q q =>
  ha H1 x _ fun v H2 e2 p2 => hb H2 (x.trans e2) _ fun u H3 e3 p3 => hr v u H3 Q (dp_ex e3 p2) p3 fun p xs H4 hp e4 h4 p4 =>
    q p xs H4 (Evl.fresh_back (e2.trans e3) hp) ((e2.trans e3).trans e4) h4 p4
theorem yd_un {r : V → Hp → VK → Prop} (ha : Yd K ta σ H d) (hr : Rd1 K r d z) : Yd K (tUn r ta) σ H z := fun H1 x Q q =>
  ha H1 x _ fun v H2 e2 p2 => hr v H2 Q p2 fun v' H3 e3 p3 => q v' H3 (e2.trans e3) p3
theorem ya_nil : Ya K tNil σ H [] := fun H1 _ _ q => q [] H1 ex_rfl .nil
theorem ya_cons {tr : TA} (ha : Yd K ta σ H d) (hr : Ya K tr σ H ds) : Ya K (tCons ta tr) σ H (d :: ds) := fun H1 x Q q =>
  ha H1 x _ fun v H2 e2 p2 => hr H2 (x.trans e2) _ fun vs H3 e3 p3 => q (v :: vs) H3 (e2.trans e3) (.cons (dp_ex e3 p2) p3)
theorem yd_tup {t : TA} (h : Ya K t σ H ds) (hl : ds.length ≤ 100000) : Yd K (tTup t) σ H (.tuple ds) := fun H1 x Q q =>
  h H1 x _ fun vs H2 e2 p2 => ⟨Evl.sz_of (by rw [dps_len p2]; exact hl), fun p hp => q _ _ (e2.trans (Evl.Ex.new hp)) (.tup (.inl (.inl upd_same)) (dps_ex (Evl.Ex.new hp) p2))⟩
theorem yn_lst {t : TA} (h : Ya K t σ H ds) (hl : ds.length ≤ 100000) : Yn K (tLst t) σ H ds := fun H1 x Q q =>
  h H1 x _ fun vs H2 e2 p2 => ⟨Evl.sz_of (by rw [dps_len p2]; exact hl), fun p hp => q p vs _ (Evl.fresh_back e2 hp) (e2.trans (Evl.Ex.new hp)) upd_same (dps_ex (Evl.Ex.new hp) p2)⟩
theorem yd_cb {r : List V → Hp → VK → Prop} {t : TA} (h : Ya K t σ H ds) (hr : RdC K r ds z) : Yd K (tCB r t) σ H z := fun H1 x Q q =>
  h H1 x _ fun vs H2 e2 p2 => hr vs H2 Q p2 fun v' H3 e3 p3 => q v' H3 (e2.trans e3) p3
theorem yn_cb {r : List V → Hp → VK → Prop} {t : TA} (h : Ya K t σ H ds) (hr : RnC K r ds zs) : Yn K (tCB r t) σ H zs := fun H1 x Q q =>
  h H1 x _ fun vs H2 e2 p2 => hr vs H2 Q p2 fun p xs H3 hp e3 h3 p3 => q p xs H3 (Evl.fresh_back e2 hp) (e2.trans e3) h3 p3
theorem yd_if {b : Bool} (h : Yt t σ H b) (h1 : b = true → Yd K ta σ H d) (h2 : b = false → Yd K tb σ H d) : Yd K (tIf t ta tb) σ H d := fun H1 x Q q => h H1 x _ fun H2 e2 => by
  cases b with
  | true => exact h1 rfl H2 (x.trans e2) Q fun v H3 e3 p3 => q v H3 (e2.trans e3) p3
  | false => exact h2 rfl H2 (x.trans e2) Q fun v H3 e3 p3 => q v H3 (e2.trans e3) p3
/-! tests -/
theorem yt_test {b : Bool} (h : Yd K te σ H (.bool b)) : Yt (tTest te) σ H b := fun H1 x Q q => h H1 x _ fun v H2 e2 p2 => ⟨b, dp_bl p2, q H2 e2⟩
theorem yt_B {b : Bool} (h : Yd K te σ H (.bool b)) : Yt (tB te) σ H b := fun H1 x Q q => h H1 x _ fun v H2 e2 p2 => ⟨b, dp_bl p2, q H2 e2⟩
theorem yt_and {a b : Bool} (h1 : Yt t σ H a) (h2 : a = true → Yt u σ H b) : Yt (tAnd t u) σ H (a && b) := Evl.et_and h1 h2
theorem yt_or {a b : Bool} (h1 : Yt t σ H a) (h2 : a = false → Yt u σ H b) : Yt (tOr t u) σ H (a || b) := Evl.et_or h1 h2
theorem yt_not {a : Bool} (h : Yt t σ H a) : Yt (tNot t) σ H (!a) := Evl.et_not h
theorem yt_or0 (h1 : Yt t σ H false) (h2 : Yt u σ H false) : Yt (tOr t u) σ H false := Evl.et_or h1 fun _ => h2
theorem yt_and1 (h1 : Yt t σ H true) (h2 : Yt u σ H true) : Yt (tAnd t u) σ H true := Evl.et_and h1 fun _ => h2
theorem yt_and0 (h1 : Yt t σ H false) : Yt (tAnd t u) σ H false := Evl.et_and (b := false) h1 fun z => nomatch z
theorem yt_or1 (h1 : Yt t σ H true) : Yt (tOr t u) σ H true := Evl.et_or (b := true) h1 fun z => nomatch z
theorem yd_andV {a b : Bool} (h1 : Yd K ta σ H (.bool a)) (h2 : a = true → Yd K tb σ H (.bool b)) : Yd K (tAndV ta tb) σ H (.bool (a && b)) := fun H1 x Q q => h1 H1 x _ fun v H2 e2 p2 => ⟨a, dp_bl p2, by
  cases a with
  | true => exact h2 rfl H2 (x.trans e2) Q fun v H3 e3 p3 => q v H3 (e2.trans e3) p3
  | false => exact q _ H2 e2 (.bl false)⟩
theorem yd_orV {a b : Bool} (h1 : Yd K ta σ H (.bool a)) (h2 : a = false → Yd K tb σ H (.bool b)) : Yd K (tOrV ta tb) σ H (.bool (a || b)) := fun H1 x Q q => h1 H1 x _ fun v H2 e2 p2 => ⟨a, dp_bl p2, by
  cases a with
  | false => exact h2 rfl H2 (x.trans e2) Q fun v H3 e3 p3 => q v H3 (e2.trans e3) p3
  | true => exact q _ H2 e2 (.bl true)⟩
theorem yd_notV {a : Bool} (h1 : Yd K ta σ H (.bool a)) : Yd K (tNotV ta) σ H (.bool (!a)) := fun H1 x Q q => h1 H1 x _ fun v H2 e2 p2 => ⟨a, dp_bl p2, q _ H2 e2 (.bl _)⟩
theorem yd_chain {r r' : R2} {c : Dt} {a b : Bool} (ha : Yd K ta σ H d) (hb : Yd K tb σ H e) (hr : Rd2 K r d e (.bool a)) (hc : a = true → Yd K tc σ H c) (hr' : a = true → Rd2 K r' e c (.bool b)) : Yd K (tChain r r' ta tb tc) σ H (.bool (a && b)) := fun H1 x Q q =>
  ha H1 x _ fun v H2 e2 p2 => hb H2 (x.trans e2) _ fun u H3 e3 p3 => hr v u H3 _ (dp_ex e3 p2) p3 fun w H4 e4 p4 => ⟨a, dp_bl p4, by
    cases a with
    | true => exact hc rfl H4 (((x.trans e2).trans e3).trans e4) _ fun y H5 e5 p5 => hr' rfl u y H5 Q (dp_ex (e4.trans e5) p3) p5 fun z H6 e6 p6 => q z H6 ((((e2.trans e3).trans e4).trans e5).trans e6) p6
    | false => exact q _ H4 ((e2.trans e3).trans e4) (.bl false)⟩
/-! operations -/
theorem rd_I0 {g : Int → Int → Int} {i j : Int} : Rd2 K (rI0 fun i j => .int (g i j)) (.int i) (.int j) (.int (g i j)) := fun v u H Q p q k => ⟨i, j, dp_int p, dp_int q, k _ H ex_rfl (.int _)⟩
theorem rd_IB {g : Int → Int → Bool} {i j : Int} : Rd2 K (rI0 fun i j => .bl (g i j)) (.int i) (.int j) (.bool (g i j)) := fun v u H Q p q k => ⟨i, j, dp_int p, dp_int q, k _ H ex_rfl (.bl _)⟩
theorem rd_I {C : Int → Int → Prop} {g : Int → Int → Int} {i j : Int} (c : C i j) : Rd2 K (rI C fun i j => .int (g i j)) (.int i) (.int j) (.int (g i j)) := fun v u H Q p q k => ⟨i, j, dp_int p, dp_int q, c, k _ H ex_rfl (.int _)⟩
theorem rd_neg {i : Int} : Rd1 K (rU fun i => .int (-i)) (.int i) (.int (-i)) := fun v H Q p k => ⟨i, dp_int p, k _ H ex_rfl (.int _)⟩
theorem Rd2.inl {r r' : R2} (h : Rd2 K r d e z) : Rd2 K (fun x y H Q => r x y H Q ∨ r' x y H Q) d e z := fun v u H Q p q k => .inl (h v u H Q p q k)
theorem Rd2.inr {r r' : R2} (h : Rd2 K r' d e z) : Rd2 K (fun x y H Q => r x y H Q ∨ r' x y H Q) d e z := fun v u H Q p q k => .inr (h v u H Q p q k)
theorem Rn2.inl {r r' : R2} (h : Rn2 K r d e zs) : Rn2 K (fun x y H Q => r x y H Q ∨ r' x y H Q) d e zs := fun v u H Q p q k => .inl (h v u H Q p q k)
theorem Rn2.inr {r r' : R2} (h : Rn2 K r' d e zs) : Rn2 K (fun x y H Q => r x y H Q ∨ r' x y H Q) d e zs := fun v u H Q p q k => .inr (h v u H Q p q k)
theorem RdC.inl {r r' : List V → Hp → VK → Prop} (h : RdC K r ds z) : RdC K (fun x H Q => r x H Q ∨ r' x H Q) ds z := fun v H Q p k => .inl (h v H Q p k)
theorem RdC.inr {r r' : List V → Hp → VK → Prop} (h : RdC K r' ds z) : RdC K (fun x H Q => r x H Q ∨ r' x H Q) ds z := fun v H Q p k => .inr (h v H Q p k)
theorem rd_eqD (hd : SeqAt.shaped d = true) (he : SeqAt.shaped e = true) : Rd2 K (rEqD K) d e (.bool (PyData.eqv d e)) := fun v u H Q p q k => ⟨d, e, p, q, hd, he, k _ H ex_rfl (.bl _)⟩
theorem rd_neD (hd : SeqAt.shaped d = true) (he : SeqAt.shaped e = true) : Rd2 K (rNeD K) d e (.bool (!PyData.eqv d e)) := fun v u H Q p q k => ⟨d, e, p, q, hd, he, k _ H ex_rfl (.bl _)⟩
theorem rd_inD (hd : SeqAt.shaped d = true) (he : SeqAt.shaped (.list ds) = true) : Rd2 K (rInD K) d (.list ds) (.bool (ds.any fun z => PyData.eqv z d)) := fun v u H Q p q k => ⟨d, ds, p, q, hd, he, k _ H ex_rfl (.bl _)⟩
theorem rd_niD (hd : SeqAt.shaped d = true) (he : SeqAt.shaped (.list ds) = true) : Rd2 K (rNotInD K) d (.list ds) (.bool (!ds.any fun z => PyData.eqv z d)) := fun v u H Q p q k => ⟨d, ds, p, q, hd, he, k _ H ex_rfl (.bl _)⟩
/-! an item -/
theorem atI_dps {i : Int} {H : Hp} {xs : List V} (p : DpAll K H xs ds) (h : atI ds i = some d) : ∃ v, atI xs i = some v ∧ Dp K H v d := by
  unfold atI at h ⊢
  rw [dps_len p]
  cases q : ixN ds.length i with
  | none => rw [q] at h; cases h
  | some j =>
    rw [q] at h
    exact dps_get (i := j) p h
theorem rd_ixL {i : Int} (h : atI ds i = some d) : Rd2 K (rIx K) (.list ds) (.int i) d := fun v u H Q p q k => by
  obtain ⟨a, xs, rfl, hs, hd⟩ := dp_lst p
  obtain ⟨w, h1, h2⟩ := atI_dps hd h
  exact .inl ⟨a, xs, i, w, rfl, dp_int q, hs, h1, k w H ex_rfl h2⟩
theorem rd_ixT {i : Int} (h : atI ds i = some d) : Rd2 K (rIx K) (.tuple ds) (.int i) d := fun v u H Q p q k => by
  obtain ⟨a, xs, rfl, hs, hd⟩ := dp_tup p
  obtain ⟨w, h1, h2⟩ := atI_dps hd h
  exact .inr (.inl ⟨a, xs, i, w, rfl, dp_int q, hs, h1, k w H ex_rfl h2⟩)
/-! len -/
theorem rd_lenL : RdC K (fun xs H Q => ∃ x n, xs = [x] ∧ LenV K x H n ∧ Q (.int n) H) [.list ds] (.int ds.length) := fun vs H Q p k => by
  obtain ⟨v, r, rfl, h1, h2⟩ := dps_cons p
  obtain rfl := dps_nil h2
  obtain ⟨a, xs, rfl, hs, hd⟩ := dp_lst h1
  exact ⟨_, xs.length, rfl, .inl ⟨xs, hs, rfl⟩, k _ H ex_rfl (by rw [dps_len hd]; exact .int _)⟩
theorem rd_lenT : RdC K (fun xs H Q => ∃ x n, xs = [x] ∧ LenV K x H n ∧ Q (.int n) H) [.tuple ds] (.int ds.length) := fun vs H Q p k => by
  obtain ⟨v, r, rfl, h1, h2⟩ := dps_cons p
  obtain rfl := dps_nil h2
  obtain ⟨a, xs, rfl, hs, hd⟩ := dp_tup h1
  exact ⟨_, xs.length, rfl, .inr ⟨xs, hs, rfl⟩, k _ H ex_rfl (by rw [dps_len hd]; exact .int _)⟩
theorem rd_lenS {x : Str} (h : x.length ≤ 100000) : RdC K (fun xs H Q => ∃ x n, xs = [x] ∧ LenV K x H n ∧ Q (.int n) H) [.str x] (.int x.length) := fun vs H Q p k => by
  obtain ⟨v, r, rfl, h1, h2⟩ := dps_cons p
  obtain rfl := dps_nil h2
  obtain rfl := dp_str h1
  exact ⟨_, x.length, rfl, ⟨Evl.sz_of h, rfl⟩, k _ H ex_rfl (.int _)⟩
end
end Wc

/-! Statements, loops, comprehensions, defs over plain data. -/
namespace Wc
open PySem PySem.Spec PyProof.Rows L2
section
variable {K : Fg} {σ : L2.St} {H H' : Hp} {ta tb tc te : TE} {t u : TT} {d e z : Dt} {ds zs : List Dt} {v : V} {r : R2} {D : Ends} {tu tw tz : TS}
/-! ### statements, something behind -/
theorem a_val {i : Nat} (h : Yd K te σ H d) (k : ∀ v H1, Ex H H1 → Dp K H1 v d → tz D (σ.set i (some v)) H1) : tSeq (tAsg te (gName i)) tz D σ H := h H ex_rfl _ k
theorem a_int {i : Nat} {n : Int} (h : Yd K te σ H (.int n)) (k : ∀ H1, Ex H H1 → tz D (σ.set i (some (.int n))) H1) : tSeq (tAsg te (gName i)) tz D σ H := h H ex_rfl _ fun v H1 e1 p => by
  obtain rfl := dp_int p
  exact k H1 e1
theorem a_bl {i : Nat} {n : Bool} (h : Yd K te σ H (.bool n)) (k : ∀ H1, Ex H H1 → tz D (σ.set i (some (.bl n))) H1) : tSeq (tAsg te (gName i)) tz D σ H := h H ex_rfl _ fun v H1 e1 p => by
  obtain rfl := dp_bl p
  exact k H1 e1
theorem a_str {i : Nat} {n : Str} (h : Yd K te σ H (.str n)) (k : ∀ H1, Ex H H1 → tz D (σ.set i (some (.str n))) H1) : tSeq (tAsg te (gName i)) tz D σ H := h H ex_rfl _ fun v H1 e1 p => by
  obtain rfl := dp_str p
  exact k H1 e1
theorem a_new {i : Nat} (h : Yn K te σ H ds) (k : ∀ p xs H1, H p = none → Ex H H1 → H1 p = some (.lst xs) → DpAll K H1 xs ds → tz D (σ.set i (some (.ref p))) H1) : tSeq (tAsg te (gName i)) tz D σ H := h H ex_rfl _ k
theorem a_par {i j : Nat} {ta : TA} (h : Ya K ta σ H [d, e]) (k : ∀ v w H1, Ex H H1 → Dp K H1 v d → Dp K H1 w e → tz D ((σ.set i (some v)).set j (some w)) H1) : tSeq (tPar i j ta) tz D σ H := h H ex_rfl _ fun vs H1 e1 p => by
  obtain ⟨v, r, rfl, h1, h2⟩ := dps_cons p
  obtain ⟨w, r2, rfl, h3, h4⟩ := dps_cons h2
  obtain rfl := dps_nil h4
  exact ⟨v, w, rfl, k v w H1 e1 h1 h3⟩
theorem a_par3 {i j l : Nat} {f : Dt} {ta : TA} (h : Ya K ta σ H [d, e, f]) (k : ∀ v w x H1, Ex H H1 → Dp K H1 v d → Dp K H1 w e → Dp K H1 x f → tz D (((σ.set i (some v)).set j (some w)).set l (some x)) H1) : tSeq (tPar3 i j l ta) tz D σ H := h H ex_rfl _ fun vs H1 e1 p => by
  obtain ⟨v, r, rfl, h1, h2⟩ := dps_cons p
  obtain ⟨w, r2, rfl, h3, h4⟩ := dps_cons h2
  obtain ⟨x, r3, rfl, h5, h6⟩ := dps_cons h4
  obtain rfl := dps_nil h6
  exact ⟨v, w, x, rfl, k v w x H1 e1 h1 h3 h5⟩
theorem i_any {b : Bool} (h : Yt t σ H b) (h1 : b = true → ∀ H1, Ex H H1 → tu { D with nx := tz D } σ H1) (h2 : b = false → ∀ H1, Ex H H1 → tw { D with nx := tz D } σ H1) : tSeq (tIfS t tu tw) tz D σ H := Evl.q_if h h1 h2
theorem i_no (h : Yt t σ H false) (k : ∀ H1, Ex H H1 → tz D σ H1) : tSeq (tIfS t tu tNext) tz D σ H := Evl.q_when h (fun z => nomatch z) fun _ => k
theorem i_yes (h : Yt t σ H true) (k : ∀ H1, Ex H H1 → tu { D with nx := tz D } σ H1) : tSeq (tIfS t tu tw) tz D σ H := Evl.q_if h (fun _ => k) fun z => nomatch z
theorem i_no2 (h : Yt t σ H false) (k : ∀ H1, Ex H H1 → tw { D with nx := tz D } σ H1) : tSeq (tIfS t tu tw) tz D σ H := Evl.q_if h (fun z => nomatch z) fun _ => k
theorem j_any {b : Bool} (h : Yt t σ H b) (h1 : b = true → ∀ H1, Ex H H1 → tu D σ H1) (h2 : b = false → ∀ H1, Ex H H1 → tw D σ H1) : tIfS t tu tw D σ H := Evl.s_if h h1 h2
theorem j_yes (h : Yt t σ H true) (k : ∀ H1, Ex H H1 → tu D σ H1) : tIfS t tu tw D σ H := Evl.s_if h (fun _ => k) fun z => nomatch z
theorem j_no (h : Yt t σ H false) (k : ∀ H1, Ex H H1 → tw D σ H1) : tIfS t tu tw D σ H := Evl.s_if h (fun z => nomatch z) fun _ => k
theorem d_val (h : Yd K te σ H d) (k : ∀ H1, Ex H H1 → tz D σ H1) : tSeq (tDrop te) tz D σ H := h H ex_rfl _ fun _ H1 e1 _ => k H1 e1
theorem r_val (h : Yd K te σ H d) (k : ∀ v H1, Ex H H1 → Dp K H1 v d → D.rt v H1) : tRet te D σ H := h H ex_rfl _ k
theorem r_new (h : Yn K te σ H ds) (k : ∀ p xs H1, H p = none → Ex H H1 → H1 p = some (.lst xs) → DpAll K H1 xs ds → D.rt (.ref p) H1) : tRet te D σ H := h H ex_rfl _ k
theorem g_aug {i : Nat} {f : Int → Int → Int} {a b : Int} (hx : σ[i]? = some (some (.int a))) (h : Yd K te σ H (.int b)) (k : ∀ H1, Ex H H1 → tz D (σ.set i (some (.int (f a b)))) H1) : tSeq (tAug i te (ipI f)) tz D σ H :=
  ⟨.int a, hx, h H ex_rfl _ fun v H1 e1 p => ⟨a, b, rfl, dp_int p, k H1 e1⟩⟩
theorem g_aug1 {i : Nat} {f : Int → Int → Int} {a b : Int} (hx : σ[i]? = some (some (.int a))) (h : Yd K te σ H (.int b)) (k : ∀ H1, Ex H H1 → D.nx (σ.set i (some (.int (f a b)))) H1) : tAug i te (ipI f) D σ H :=
  ⟨.int a, hx, h H ex_rfl _ fun v H1 e1 p => ⟨a, b, rfl, dp_int p, k H1 e1⟩⟩
end

/-! ### what a def does, on data -/
inductive Res where
  | val (d : Dt) | new (ds : List Dt) | exc (x : Str)
def Res.go (K : Fg) (r : Res) (H : Hp) (Q : VK) (E : XK) : Prop := match r with
  | .val d => ∀ v H2, Ex H H2 → Dp K H2 v d → Q v H2
  | .new ds => ∀ p xs H2, H p = none → Ex H H2 → H2 p = some (.lst xs) → DpAll K H2 xs ds → Q (.ref p) H2
  | .exc x => ∀ H2, Ex H H2 → E (.ref (He.ga K x)) none H2
/-- the promise: F arguments result -/
def spF (K : Fg) (F : List Dt → Res → Prop) : Sp := fun vs H Q E => ∃ ds r, DpAll K H vs ds ∧ F ds r ∧ r.go K H Q E
section
variable {K : Fg} {σ : L2.St} {H H' : Hp} {te : TE} {ta : TA} {d : Dt} {ds zs : List Dt} {D : Ends} {tz : TS} {F : List Dt → Res → Prop} {E : XK}
theorem yd_call (h : Ya K ta σ H ds) (f : F ds (.val d)) : Yd K (tCall (spF K F) [] E ta) σ H d := fun H1 x Q q => h H1 x _ fun vs H2 e2 p2 => by
  rw [List.append_nil]
  exact ⟨ds, _, p2, f, fun v H3 e3 p3 => q v H3 (e2.trans e3) p3⟩
theorem yn_call (h : Ya K ta σ H ds) (f : F ds (.new zs)) : Yn K (tCall (spF K F) [] E ta) σ H zs := fun H1 x Q q => h H1 x _ fun vs H2 e2 p2 => by
  rw [List.append_nil]
  exact ⟨ds, _, p2, f, fun p xs H3 hp e3 h3 p3 => q p xs H3 (Evl.fresh_back e2 hp) (e2.trans e3) h3 p3⟩
theorem ydn_call (h : Ya K ta σ H ds) (f : F ds (.new zs)) : Yd K (tCall (spF K F) [] E ta) σ H (.list zs) := (yn_call h f).yd
/-- a call that raises, anywhere it is the first thing done -/
theorem x_call {x : Str} {Q : VK} (h : Ya K ta σ H ds) (f : F ds (.exc x)) (k : ∀ H1, Ex H H1 → E (.ref (He.ga K x)) none H1) : tCall (spF K F) [] E ta σ H Q := h H ex_rfl _ fun vs H2 e2 p2 => by
  rw [List.append_nil]
  exact ⟨ds, _, p2, f, fun H3 e3 => k H3 (e2.trans e3)⟩
theorem c_ok (h : Ya K ta σ H ds) (f : F ds (.val d)) (k : ∀ H1, Ex H H1 → tz D σ H1) : tSeq (tDrop (tCall (spF K F) [] E ta)) tz D σ H := d_val (yd_call h f) k
theorem c_bad {x : Str} (h : Ya K ta σ H ds) (f : F ds (.exc x)) (k : ∀ H1, Ex H H1 → E (.ref (He.ga K x)) none H1) : tSeq (tDrop (tCall (spF K F) [] E ta)) tz D σ H := x_call h f k
theorem Res.mono {r : Res} {Q : VK} (e : Ex H H') (h : r.go K H Q E) : r.go K H' Q E := by
  cases r with
  | val d => exact fun v H2 e2 p => h v H2 (e.trans e2) p
  | new ds => exact fun p xs H2 hp e2 h2 q => h p xs H2 (Evl.fresh_back e hp) (e.trans e2) h2 q
  | exc x => exact fun H2 e2 => h H2 (e.trans e2)
/-- the end of a body: what is promised is given -/
theorem r_go {Q : VK} {d : Dt} (h : Yd K te σ H d) (k : Res.go K (.val d) H Q E) (nx : L2.St → Hp → Prop := fun _ H' => Q .non H') : tRet te { nx := nx, rt := Q } σ H := h H ex_rfl _ k
theorem n_go {Q : VK} (h : Yn K te σ H zs) (k : Res.go K (.new zs) H Q E) (nx : L2.St → Hp → Prop := fun _ H' => Q .non H') : tRet te { nx := nx, rt := Q } σ H := h H ex_rfl _ k
end

/-! ### what is walked -/
structure Src (K : Fg) (J : It) (H0 : Hp) (n : Nat) (dI : Nat → Dt) : Prop where
  go : ∀ i H, i < n → Ex H0 H → J.go i H
  yld : ∀ i H x H', i < n → Ex H0 H → J.yld i H x H' → Ex H H' ∧ Dp K H' x (dI i)
  stop : ∀ H, Ex H0 H → J.stop n H
def Yi (K : Fg) (wi : TI) (σ : L2.St) (H : Hp) (n : Nat) (dI : Nat → Dt) : Prop := ∀ H1, Ex H H1 → ∀ R : It → Hp → Prop, (∀ J H2, Ex H1 H2 → Src K J H2 n dI → R J H2) → wi σ H1 R
def atD (ds : List Dt) (i : Nat) : Dt := ds.getD i .none
theorem atD_get {ds : List Dt} {i : Nat} (h : i < ds.length) : ds[i]? = some (atD ds i) := by
  unfold atD
  rw [List.getD_eq_getElem?_getD, List.getElem?_eq_getElem h] <;> rfl
section
variable {K : Fg} {σ : L2.St} {H H' : Hp} {te : TE} {ta : TA} {d : Dt} {ds es zs : List Dt} {n : Nat} {dI : Nat → Dt}
theorem Yi.mono {wi : TI} (x : Ex H H') (h : Yi K wi σ H n dI) : Yi K wi σ H' n dI := fun H1 a Q q => h H1 (x.trans a) Q q
theorem src_range {lo : Int} : Src K (Itr lo n) H n (fun i => .int (lo + i)) := ⟨fun i _ h _ => h, fun i H x H' _ _ y => by
  obtain ⟨rfl, rfl⟩ := y
  exact ⟨ex_rfl, .int _⟩, fun _ _ => Nat.le_refl _⟩
theorem src_rangeC {lo c : Int} : Src K (Itc lo c n) H n (fun i => .int (lo + (i : Nat) * c)) := ⟨fun i _ h _ => h, fun i H x H' _ _ y => by
  obtain ⟨rfl, rfl⟩ := y
  exact ⟨ex_rfl, .int _⟩, fun _ _ => Nat.le_refl _⟩
theorem src_list {a : Addr} {xs : List V} (h : SqL K H a xs) (hd : DpAll K H xs ds) : Src K (Itl K a) H ds.length (atD ds) := ⟨fun i H1 hi e => by
    have q : i < xs.length := by rw [dps_len hd]; exact hi
    exact ⟨xs, xs[i], Evl.ex_l e h, List.getElem?_eq_getElem q⟩, fun i H1 x H2 hi e y => by
    obtain ⟨rfl, y⟩ := y
    obtain ⟨d, h1, h2⟩ := dps_at (dps_ex e hd) (y xs (Evl.ex_l e h))
    rw [atD_get hi] at h1
    cases h1
    exact ⟨ex_rfl, h2⟩, fun H1 e => ⟨xs, Evl.ex_l e h, by rw [dps_len hd]; exact Nat.le_refl _⟩⟩
theorem src_tup {a : Addr} {xs : List V} (h : SqT K H a xs) (hd : DpAll K H xs ds) : Src K (Itt K a) H ds.length (atD ds) := ⟨fun i H1 hi e => by
    have q : i < xs.length := by rw [dps_len hd]; exact hi
    exact ⟨xs, xs[i], Evl.ex_t e h, List.getElem?_eq_getElem q⟩, fun i H1 x H2 hi e y => by
    obtain ⟨rfl, y⟩ := y
    obtain ⟨d, h1, h2⟩ := dps_at (dps_ex e hd) (y xs (Evl.ex_t e h))
    rw [atD_get hi] at h1
    cases h1
    exact ⟨ex_rfl, h2⟩, fun H1 e => ⟨xs, Evl.ex_t e h, by rw [dps_len hd]; exact Nat.le_refl _⟩⟩
theorem src_enum {a : Addr} {xs : List V} (h : SqL K H a xs) (hd : DpAll K H xs ds) : Src K (Ite K a) H ds.length (fun i => .tuple [.int (i : Nat), atD ds i]) := ⟨fun i H1 hi e => by
    have q : i < xs.length := by rw [dps_len hd]; exact hi
    exact ⟨xs, xs[i], Evl.ex_l e h, List.getElem?_eq_getElem q⟩, fun i H1 v H2 hi e y => by
    obtain ⟨T, x, rfl, hT, rfl, y⟩ := y
    obtain ⟨d, h1, h2⟩ := dps_at (dps_ex e hd) (y xs (Evl.ex_l e h))
    rw [atD_get hi] at h1
    cases h1
    exact ⟨Evl.Ex.new hT, .tup (.inl (.inl upd_same)) (.cons (.int _) (.cons (dp_ex (Evl.Ex.new hT) h2) .nil))⟩, fun H1 e => ⟨xs, Evl.ex_l e h, by rw [dps_len hd]; exact Nat.le_refl _⟩⟩
theorem src_zip {a b : Addr} {xs ys : List V} (h : SqL K H a xs) (h' : SqL K H b ys) (hd : DpAll K H xs ds) (he : DpAll K H ys es) : Src K (Itz K a b) H (min ds.length es.length) (fun i => .tuple [atD ds i, atD es i]) := ⟨fun i H1 hi e => by
    have q : i < xs.length := by rw [dps_len hd]; omega
    have q' : i < ys.length := by rw [dps_len he]; omega
    exact ⟨xs, ys, xs[i], ys[i], Evl.ex_l e h, Evl.ex_l e h', List.getElem?_eq_getElem q, List.getElem?_eq_getElem q'⟩, fun i H1 v H2 hi e y => by
    obtain ⟨T, x, y, rfl, hT, rfl, y1, y2⟩ := y
    obtain ⟨d, h1, h2⟩ := dps_at (dps_ex e hd) (y1 xs (Evl.ex_l e h))
    obtain ⟨d', h3, h4⟩ := dps_at (dps_ex e he) (y2 ys (Evl.ex_l e h'))
    rw [atD_get (by omega)] at h1 h3
    cases h1
    cases h3
    exact ⟨Evl.Ex.new hT, .tup (.inl (.inl upd_same)) (.cons (dp_ex (Evl.Ex.new hT) h2) (.cons (dp_ex (Evl.Ex.new hT) h4) .nil))⟩, fun H1 e => ⟨xs, ys, Evl.ex_l e h, Evl.ex_l e h', by rw [dps_len hd, dps_len he]; omega⟩⟩
theorem yi_list (h : Yd K te σ H (.list ds)) : Yi K (iList K te) σ H ds.length (atD ds) := fun H1 x R q => h H1 x _ fun v H2 e2 p2 => by
  obtain ⟨a, xs, rfl, h1, h2⟩ := dp_lst p2
  exact ⟨a, rfl, ⟨xs, h1⟩, q _ H2 e2 (src_list h1 h2)⟩
theorem yi_tup (h : Yd K te σ H (.tuple ds)) : Yi K (iTup K te) σ H ds.length (atD ds) := fun H1 x R q => h H1 x _ fun v H2 e2 p2 => by
  obtain ⟨a, xs, rfl, h1, h2⟩ := dp_tup p2
  exact ⟨a, rfl, ⟨xs, h1⟩, q _ H2 e2 (src_tup h1 h2)⟩
theorem yi_rng1 {m : Int} (h : Ya K ta σ H [.int m]) (hm : 0 ≤ m ∧ m ≤ 10000000) : Yi K (iRng1 ta) σ H m.toNat (fun i => .int (0 + i)) := fun H1 x R q => h H1 x _ fun vs H2 e2 p2 => by
  obtain ⟨v, r, rfl, h1, h2⟩ := dps_cons p2
  obtain rfl := dps_nil h2
  obtain rfl := dp_int h1
  exact ⟨m, rfl, by omega, by omega, q _ H2 e2 src_range⟩
theorem yi_rng2 {l m : Int} (h : Ya K ta σ H [.int l, .int m]) (hm : -10000000 ≤ l ∧ l ≤ 10000000 ∧ -10000000 ≤ m ∧ m ≤ 10000000) : Yi K (iRng2 ta) σ H (m - l).toNat (fun i => .int (l + i)) := fun H1 x R q => h H1 x _ fun vs H2 e2 p2 => by
  obtain ⟨v, r, rfl, h1, h2⟩ := dps_cons p2
  obtain ⟨v', r', rfl, h3, h4⟩ := dps_cons h2
  obtain rfl := dps_nil h4
  obtain rfl := dp_int h1
  obtain rfl := dp_int h3
  exact ⟨l, m, rfl, by omega, q _ H2 e2 src_range⟩
theorem yi_enum (h : Ya K ta σ H [.list ds]) : Yi K (iEnum K ta) σ H ds.length (fun i => .tuple [.int (i : Nat), atD ds i]) := fun H1 x R q => h H1 x _ fun vs H2 e2 p2 => by
  obtain ⟨v, r, rfl, h1, h2⟩ := dps_cons p2
  obtain rfl := dps_nil h2
  obtain ⟨a, xs, rfl, h3, h4⟩ := dp_lst h1
  exact ⟨a, xs, rfl, h3, q _ H2 e2 (src_enum h3 h4)⟩
theorem yi_zip (h : Ya K ta σ H [.list ds, .list es]) : Yi K (iZip K ta) σ H (min ds.length es.length) (fun i => .tuple [atD ds i, atD es i]) := fun H1 x R q => h H1 x _ fun vs H2 e2 p2 => by
  obtain ⟨v, r, rfl, h1, h2⟩ := dps_cons p2
  obtain ⟨v', r', rfl, h3, h4⟩ := dps_cons h2
  obtain rfl := dps_nil h4
  obtain ⟨a, xs, rfl, h5, h6⟩ := dp_lst h1
  obtain ⟨b, ys, rfl, h7, h8⟩ := dp_lst h3
  exact ⟨a, b, xs, ys, rfl, h5, h7, q _ H2 e2 (src_zip h5 h7 h6 h8)⟩
theorem yi_str {x : Str} (h : Yd K te σ H (.str x)) : Yi K (iStr te) σ H x.cps.size (fun i => .str ⟨#[x.cps.getD i 0]⟩) := fun H1 y R q => h H1 y _ fun v H2 e2 p2 => by
  obtain rfl := dp_str p2
  refine ⟨x, rfl, q _ H2 e2 ⟨fun i _ h _ => h, fun i H v H' hi _ y => ?_, fun _ _ => Nat.le_refl _⟩⟩
  obtain ⟨rfl, c, h1, rfl⟩ := y
  have e : x.cps.getD i 0 = c := by
    have : i < x.cps.size := hi
    rw [Array.getD, dif_pos this]
    exact Option.some.inj ((Array.getElem?_eq_getElem this).symm.trans h1)
  rw [e]
  exact ⟨ex_rfl, .str _⟩
end

/-! ### comprehensions -/
def kept (n : Nat) (f : Nat → Bool) (g : Nat → Dt) : List Dt := ((List.range n).filter f).map g
theorem kept_yes {n : Nat} {f : Nat → Bool} {g : Nat → Dt} (h : f n = true) : kept (n + 1) f g = kept n f g ++ [g n] := by
  unfold kept
  rw [List.range_succ, List.filter_append, List.map_append, List.filter_cons, if_pos h] <;> rfl
theorem kept_no {n : Nat} {f : Nat → Bool} {g : Nat → Dt} (h : f n = false) : kept (n + 1) f g = kept n f g := by
  unfold kept
  rw [List.range_succ, List.filter_append, List.map_append, List.filter_cons, if_neg (by rw [h]; decide)]
  show _ ++ [] = _
  rw [List.append_nil]
theorem kept_len (n : Nat) (f : Nat → Bool) (g : Nat → Dt) : (kept n f g).length ≤ n := by
  unfold kept
  rw [List.length_map]
  have h := List.length_filter_le f (List.range n)
  rw [List.length_range] at h
  exact h
section
variable {K : Fg} {σ : L2.St} {H H' : Hp} {wi : TI} {g : TG} {t : TT} {te : TE} {vs : List Nat} {n : Nat} {dI : Nat → Dt}
theorem kept_noLst {f : Nat → Bool} {v : Nat → Dt} (hv : ∀ i, i < n → f i = true → noLst (v i) = true) : ∀ i, i ≤ n → noLsts (kept i f v) = true
  | 0, _ => by show noLsts [] = true; rw [noLsts]
  | i + 1, hi => by
    cases q : f i with
    | true =>
      rw [kept_yes q]
      exact noLsts_app (kept_noLst hv i (by omega)) (by rw [noLsts, hv i (by omega) q, noLsts] <;> rfl)
    | false =>
      rw [kept_no q]
      exact kept_noLst hv i (by omega)
/-- [e for target in source if test]: Sg says which slots the target leaves -/
theorem yn_lcG (hi : Yi K wi σ H n dI) (hn : n ≤ 100000) (f : Nat → Bool) (v : Nat → Dt) (hv : ∀ i, i < n → f i = true → noLst (v i) = true) (Sg : Nat → L2.St → Hp → Prop)
    (hg : ∀ i x H1 (R : L2.St → Hp → Prop), i < n → Ex H H1 → Dp K H1 x (dI i) → (∀ σ2, Sg i σ2 H1 → R σ2 H1) → g x (wipe σ vs) H1 R)
    (hw : ∀ i σ2 H1, Sg i σ2 H1 → wipe σ2 vs = wipe σ vs)
    (ht : ∀ i σ2 H1, i < n → Ex H H1 → Sg i σ2 H1 → Yt t σ2 H1 (f i)) (he : ∀ i σ2 H1, i < n → Ex H H1 → f i = true → Sg i σ2 H1 → Yd K te σ2 H1 (v i))
    (hs : ∀ i σ2 H1 H2, Ex H1 H2 → Sg i σ2 H1 → Sg i σ2 H2) :
    Yn K (tLc wi g t te vs) σ H (kept n f v) := fun H0 x Q q => hi H0 x _ fun J H1 e1 S => fun Dl hD => by
  refine ⟨fun i m H' => m = n - i ∧ i ≤ n ∧ Ex H1 H' ∧ ∃ acc, H' Dl = some (.lst acc) ∧ DpAll K H' acc (kept i f v), ⟨n, by simp, Nat.zero_le _, Evl.Ex.new hD, [], upd_same, .nil⟩, ?_⟩
  rintro i m H' ⟨rfl, hin, eH, acc, hacc, hda⟩
  by_cases hlt : i < n
  · refine .inr ⟨S.go i H' hlt eH, fun H2 => Ex H1 H2 ∧ ∃ acc, H2 Dl = some (.lst acc) ∧ DpAll K H2 acc (kept (i + 1) f v), fun H2 ⟨p1, p2⟩ => ⟨n - (i + 1), by omega, rfl, hlt, p1, p2⟩, fun y H2 hy => ?_⟩
    obtain ⟨e2, dy⟩ := S.yld i H' y H2 hlt eH hy
    have eHH2 : Ex H H2 := ((x.trans e1).trans eH).trans e2
    refine hg i y H2 _ hlt eHH2 dy fun σ2 s2 => ⟨hw i σ2 H2 s2, ?_⟩
    refine ht i σ2 H2 hlt eHH2 s2 H2 ex_rfl _ fun H3 e3 => ?_
    cases hf : f i with
    | true =>
      show te σ2 H3 _
      refine he i σ2 H3 hlt (eHH2.trans e3) hf (hs i σ2 H2 H3 e3 s2) H3 ex_rfl _ fun z H4 e4 p4 => ?_
      have h4 : H4 Dl = some (.lst acc) := e4 _ _ (e3 _ _ (e2 _ _ hacc))
      have l4 : acc.length < sizeLine := Evl.sz_lt (by rw [dps_len hda]; have := kept_len i f v; omega)
      have lx : Lx H4 (upd H4 Dl (.lst (acc ++ [z]))) := Lx.upd h4
      refine ⟨acc, h4, l4, Evl.Ex.mut (((eH.trans e2).trans e3).trans e4) hD, acc ++ [z], upd_same, ?_⟩
      rw [kept_yes hf]
      exact dps_app (dps_lx lx (kept_noLst hv i hin) (dps_ex ((e2.trans e3).trans e4) hda)) (.cons (dp_lx lx (hv i hlt hf) p4) .nil)
    | false =>
      show Ex H1 H3 ∧ _
      refine ⟨(eH.trans e2).trans e3, acc, e3 _ _ (e2 _ _ hacc), ?_⟩
      rw [kept_no hf]
      exact dps_ex (e2.trans e3) hda
  · have en : i = n := by omega
    subst en
    exact .inl ⟨S.stop H' eH, q Dl acc H' (Evl.fresh_back e1 hD) (e1.trans eH) hacc hda⟩
/-- the target one name -/
theorem yn_lc {j : Nat} (hi : Yi K wi σ H n dI) (hn : n ≤ 100000) (f : Nat → Bool) (v : Nat → Dt) (hv : ∀ i, i < n → f i = true → noLst (v i) = true) (hw : ∀ x, wipe ((wipe σ vs).set j (some x)) vs = wipe σ vs)
    (ht : ∀ i y H1, i < n → Ex H H1 → Dp K H1 y (dI i) → Yt t ((wipe σ vs).set j (some y)) H1 (f i)) (he : ∀ i y H1, i < n → Ex H H1 → f i = true → Dp K H1 y (dI i) → Yd K te ((wipe σ vs).set j (some y)) H1 (v i)) :
    Yn K (tLc wi (gName j) t te vs) σ H (kept n f v) :=
  yn_lcG hi hn f v hv (fun i σ2 H1 => ∃ y, σ2 = (wipe σ vs).set j (some y) ∧ Dp K H1 y (dI i)) (fun i x H1 R hlt eH dx k => k _ ⟨x, rfl, dx⟩)
    (fun i σ2 H1 ⟨y, e, _⟩ => e ▸ hw y) (fun i σ2 H1 hlt eH ⟨y, e, dy⟩ => e ▸ ht i y H1 hlt eH dy) (fun i σ2 H1 hlt eH hf ⟨y, e, dy⟩ => e ▸ he i y H1 hlt eH hf dy) (fun i σ2 H1 H2 e2 ⟨y, e, dy⟩ => ⟨y, e, dp_ex e2 dy⟩)
/-- the target two names -/
theorem yn_lc2 {j k : Nat} {d1 d2 : Nat → Dt} (hi : Yi K wi σ H n fun i => .tuple [d1 i, d2 i]) (hn : n ≤ 100000) (f : Nat → Bool) (v : Nat → Dt) (hv : ∀ i, i < n → f i = true → noLst (v i) = true) (hw : ∀ x y, wipe (((wipe σ vs).set j (some x)).set k (some y)) vs = wipe σ vs)
    (ht : ∀ i y z H1, i < n → Ex H H1 → Dp K H1 y (d1 i) → Dp K H1 z (d2 i) → Yt t (((wipe σ vs).set j (some y)).set k (some z)) H1 (f i))
    (he : ∀ i y z H1, i < n → Ex H H1 → f i = true → Dp K H1 y (d1 i) → Dp K H1 z (d2 i) → Yd K te (((wipe σ vs).set j (some y)).set k (some z)) H1 (v i)) :
    Yn K (tLc wi (gTup K 2 (gCons (gName j) (gCons (gName k) gNil))) t te vs) σ H (kept n f v) :=
  yn_lcG hi hn f v hv (fun i σ2 H1 => ∃ y z, σ2 = ((wipe σ vs).set j (some y)).set k (some z) ∧ Dp K H1 y (d1 i) ∧ Dp K H1 z (d2 i)) (fun i x H1 R hlt eH dx q => by
      obtain ⟨a, xs, rfl, h1, h2⟩ := dp_tup dx
      obtain ⟨y, r, rfl, h3, h4⟩ := dps_cons h2
      obtain ⟨z, r2, rfl, h5, h6⟩ := dps_cons h4
      obtain rfl := dps_nil h6
      exact ⟨a, [y, z], rfl, h1, rfl, y, [z], rfl, z, [], rfl, rfl, q _ ⟨y, z, rfl, h3, h5⟩⟩)
    (fun i σ2 H1 ⟨y, z, e, _⟩ => e ▸ hw y z) (fun i σ2 H1 hlt eH ⟨y, z, e, dy, dz⟩ => e ▸ ht i y z H1 hlt eH dy dz) (fun i σ2 H1 hlt eH hf ⟨y, z, e, dy, dz⟩ => e ▸ he i y z H1 hlt eH hf dy dz)
    (fun i σ2 H1 H2 e2 ⟨y, z, e, dy, dz⟩ => ⟨y, z, e, dp_ex e2 dy, dp_ex e2 dz⟩)
theorem yt_yes : Yt tYes σ H true := fun H1 _ Q q => q H1 ex_rfl
end

/-! ### for -/
section
variable {K : Fg} {σ : L2.St} {H H' : Hp} {wi : TI} {g : TG} {tb tz : TS} {n : Nat} {dI : Nat → Dt} {D : Ends}
/-- a word of turn, slots, heap; the source stands over a base B of which all the loop's heaps are extensions -/
theorem f_gen (hi : Yi K wi σ H n dI) (Pv : Nat → L2.St → Hp → Prop) (h0 : ∀ H1, Ex H H1 → Pv 0 σ H1) (hb : ∀ i σ' H', i ≤ n → Pv i σ' H' → Ex H H')
    (hs : ∀ i x σ' H', i < n → Dp K H' x (dI i) → Pv i σ' H' → g x σ' H' fun σ2 H2 => tb { D with nx := Pv (i + 1), ct := Pv (i + 1), bk := tz D } σ2 H2)
    (hx : ∀ i σ' H1 H2, Ex H1 H2 → Pv i σ' H1 → Pv i σ' H2) (hd : ∀ σ' H', Pv n σ' H' → tz D σ' H')
    (hB : ∀ J H1 H2, Ex H H1 → Src K J H1 n dI → Ex H H2 → Src K J H2 n dI) : tSeq (tFor wi g tb) tz D σ H := hi H ex_rfl _ fun J H1 e1 S => by
  refine ⟨fun i m σ' H' => m = n - i ∧ i ≤ n ∧ Pv i σ' H', ⟨n, by simp, Nat.zero_le _, h0 H1 e1⟩, ?_⟩
  rintro i m σ' H' ⟨rfl, hin, p⟩
  have eH := hb i σ' H' hin p
  have S' := hB J H1 H' e1 S eH
  by_cases hlt : i < n
  · refine .inr ⟨S'.go i H' hlt ex_rfl, Pv (i + 1), fun σ2 H2 p2 => ⟨n - (i + 1), by omega, rfl, hlt, p2⟩, fun y H2 hy => ?_⟩
    obtain ⟨e2, dy⟩ := S'.yld i H' y H2 hlt ex_rfl hy
    exact hs i y σ' H2 hlt dy (hx i σ' H' H2 e2 p)
  · have en : i = n := by omega
    subst en
    exact .inl ⟨S'.stop H' ex_rfl, hd σ' H' p⟩
end

/-! ### defs -/
section
variable {P : Program} {w : World} {K : Fg} {mg : Str → Option Value} {base : Heap}
structure Cal (P : Program) (w : World) (K : Fg) (mg : Str → Option Value) (base : Heap) (x : Str) (ps : List Str) (k : Nat) (sp : Sp) : Prop where
  ex : ∃ (f : Addr) (fd : FuncData), FnOk P w K mg base (L2.CX P w) k f fd ps sp ∧ mg x = some (.ref f) ∧ PySem.W.keepIn K (.ref f) = true ∧ Binds K fd ps []
/-- a def of the top as it stands -/
structure Df (K : Fg) (mg : Str → Option Value) (x : Str) (st : Stmt) : Prop where
  ex : ∃ (f : Addr) (fd : FuncData), FunD K x x (defArgs st) (defBody st) (defScope st) [] [] f fd ∧ mg x = some (.ref f)
theorem Df.cal {x : Str} {st : Stmt} {N ps : List Str} {k : Nat} {sp : Sp} (F : Df K mg x st) (S : FnScope N ps (defScope st))
    (hbi : ∀ (kV doc pm : Value) (an : Option Addr) (cdv ct : Value) (us : List Value), us.length = ps.length → bindArgs (PySem.W.fnOf x x (defArgs st) (defBody st) (defScope st) .none kV doc pm an cdv ct) ⟨us, []⟩ = pure (ps.zip us))
    (len : ∀ vs H Q E, sp vs H Q E → vs.length = ps.length)
    (hbody : ∀ (f : Addr) (cdv : Value) (A : Around) (outer : List Env) (s : Shared) (H : Hp) (vs : List V) (Q : VK) (E : XK), Room k (A.deeper (envOfC x (defScope st) s.heap.objs.size f cdv)) → sp vs H Q E →
      ∃ t, PSs (cxOf (L2.CX P w) P w K mg base N x (defScope st) f cdv A outer s H E) (defBody st) t ∧ t { nx := fun _ H' => Q .non H', rt := Q } (start N vs) H) : Cal P w K mg base x ps (k + 1) sp := by
  obtain ⟨f, fd, F, hm⟩ := F.ex
  exact ⟨f, fd, F.ok S len fun cdv A outer s H vs Q E hr h => hbody f cdv A outer s H vs Q E hr h, hm, F.kp, F.bindsN hbi⟩
/-- .. with a promise on data -/
theorem Df.calF {x : Str} {st : Stmt} {N ps : List Str} {k : Nat} {F : List Dt → Res → Prop} (Z : Df K mg x st) (S : FnScope N ps (defScope st))
    (hbi : ∀ (kV doc pm : Value) (an : Option Addr) (cdv ct : Value) (us : List Value), us.length = ps.length → bindArgs (PySem.W.fnOf x x (defArgs st) (defBody st) (defScope st) .none kV doc pm an cdv ct) ⟨us, []⟩ = pure (ps.zip us))
    (len : ∀ ds r, F ds r → ds.length = ps.length)
    (hbody : ∀ (f : Addr) (cdv : Value) (A : Around) (outer : List Env) (s : Shared) (H : Hp) (vs : List V) (Q : VK) (E : XK) (ds : List Dt) (r : Res), Room k (A.deeper (envOfC x (defScope st) s.heap.objs.size f cdv)) → DpAll K H vs ds → F ds r → r.go K H Q E →
      ∃ t, PSs (cxOf (L2.CX P w) P w K mg base N x (defScope st) f cdv A outer s H E) (defBody st) t ∧ t { nx := fun _ H' => Q .non H', rt := Q } (start N vs) H) : Cal P w K mg base x ps (k + 1) (spF K F) :=
  Z.cal S hbi (fun vs H Q E ⟨ds, r, hd, hf, _⟩ => (dps_len hd).trans (len ds r hf)) fun f cdv A outer s H vs Q E hr ⟨ds, r, hd, hf, hk⟩ => hbody f cdv A outer s H vs Q E ds r hr hd hf hk
theorem pe_cal {X : Cx} {x : Str} {ps : List Str} {k : Nat} {sp : Sp} {E : XK} {e : Expr} {es : List Expr} {t : TA} {p pos : Pos} (C : Cal X.prog X.w X.K X.mg X.base x ps k sp) (hr : Room k X.A) (hx : Passes (L2.CX X.prog X.w) X E) (ha : PA X (e :: es) t)
    (hg : Gl X x := by rfl) (hdb : (x == ("__debug__" : Str)) = false := by decide) (he : starEach (e :: es) X.env = (false, eval e X.env) :: starEach es X.env := by rfl) (hpl : (backTo pos (starEach es X.env)).any (·.1) = false := by rfl) :
    PE X (.Call (.Name x p) (e :: es) [] pos) (tCall sp [] E t) := by
  obtain ⟨f, fd, F, hm, hk, hb⟩ := C.ex
  exact pe_call F hr hg hm hk hb .nil hx ha hdb he hpl
theorem pe_cal0 {X : Cx} {x : Str} {ps : List Str} {k : Nat} {sp : Sp} {E : XK} {p pos : Pos} (C : Cal X.prog X.w X.K X.mg X.base x ps k sp) (hr : Room k X.A) (hx : Passes (L2.CX X.prog X.w) X E)
    (hg : Gl X x := by rfl) (hdb : (x == ("__debug__" : Str)) = false := by decide) : PE X (.Call (.Name x p) [] [] pos) (tCall sp [] E tNil) := by
  obtain ⟨f, fd, F, hm, hk, hb⟩ := C.ex
  exact pe_call0 F hr hg hm hk hb .nil hx hdb
/-- what a callee lets out leaves this def as its own -/
theorem px {P : Program} {w : World} {K : Fg} {mg : Str → Option Value} {base : Heap} {N : List Str} {qual : Str} {scope : Scope} {f : Addr} {cd : Value} {A : Around} {outer : List Env} {s : Shared} {H : Hp} {E : XK} :
    Passes (L2.CX P w) (cxOf (L2.CX P w) P w K mg base N qual scope f cd A outer s H E) E := passes_call (takes_of rfl rfl rfl rfl) fun _ _ _ _ h => h
/-- an exception class of the text -/
structure ExF (K : Fg) (mg : Str → Option Value) (x : Str) : Prop where
  g : mg x = some (.ref (He.ga K x))
  q : PySem.W.excIn K (He.ga K x) He.veBase "ValueError.__new__" = true
  kp : PySem.W.keepIn K (.ref (He.ga K x)) = true
  sub : PySem.W.subIn K (.ref (He.ga K x)) (.type "BaseException") = some true
  ty : PySem.W.typeIn K (.ref (He.ga K x)) = some (.type "type")
/-- raise X('m') -/
def tRz (K : Fg) (x : Str) (E : XK) : TS := fun _ _ H => E (.ref (He.ga K x)) none H
theorem ps_rz {x m : Str} {j : Nat} {p p2 pos pos2 : Pos} {N : List Str} {qual : Str} {scope : Scope} {f : Addr} {cd : Value} {A : Around} {outer : List Env} {s : Shared} {H : Hp} {E : XK} (F : ExF K mg x)
    (hg : Gl (cxOf (L2.CX P w) P w K mg base N qual scope f cd A outer s H E) x := by rfl) (hdb : (x == ("__debug__" : Str)) = false := by decide) :
    PS (cxOf (L2.CX P w) P w K mg base N qual scope f cd A outer s H E) (.Raise (some (.Call (.Name x p) [.Constant (.str m) j p2] [] pos)) none pos2) (tRz K x E) :=
  ps_raise rfl (takes_of rfl rfl rfl rfl) (pmk_own PySem.F.excBase_ValueError F.q F.g F.kp (raises_own F.sub F.ty) hg hdb)
end
end Wc

/-! Kinds of data, isinstance, small rules; the tactics by walk_at. -/
namespace Wc
open PySem PySem.Spec PyProof.Rows L2
/-! ### isinstance of data and a built-in class -/
def tyN : Dt → String
  | .none => "NoneType"
  | .bool _ => "bool"
  | .int _ => "int"
  | .str _ => "str"
  | .list _ => "list"
  | .tuple _ => "tuple"
  | .dict _ => "dict"
section
variable {K : Fg} {σ : L2.St} {H H' : Hp} {ta tb te : TE} {d e z : Dt} {ds zs : List Dt} {v : V}
theorem tyX_of : ∀ {d : Dt} {v : V}, Dp K H v d → TyX K H v (.type (tyN d))
  | .none, _, h => by cases h; exact .base .non
  | .bool _, _, h => by cases h; exact .base (.bl _)
  | .int _, _, h => by cases h; exact .base (.int _)
  | .str _, _, h => by cases h; exact .base (.str _)
  | .list _, _, h => by
    obtain ⟨a, xs, rfl, (h | ⟨o, h⟩) | ⟨o, its, n, h, hc, _⟩, _⟩ := dp_lst h
    · exact .base (.lst h)
    · exact .base (.frz h)
    · exact .kList h hc
  | .tuple _, _, h => by
    obtain ⟨a, xs, rfl, (h | ⟨o, h⟩) | ⟨o, its, n, h, hc, _⟩, _⟩ := dp_tup h
    · exact .base (.tup h)
    · exact .fTuple h
    · exact .kTuple h hc
  | .dict _, _, h => by cases h
def isTy (d : Dt) (n : String) : Bool := (kitB (tyN d) n).getD false
theorem yd_isi {n : String} {b : Bool} (h : Yd K te σ H d) (hb : kitB (tyN d) n = some b) : Yd K (tCB (rIsi K) (tCons te (tCons (tC (.ty n)) tNil))) σ H (.bool b) := fun H1 x Q q =>
  h H1 x _ fun v H2 e2 p2 => ⟨v, .ty n, _, _, b, rfl, .ty n, tyX_of p2, kit_ty hb, q _ H2 e2 (.bl b)⟩
/-! ### int operations by their conditions -/
theorem rd_mod {i j : Int} (h : 0 < j) : Rd2 K (rI (fun _ j => 0 < j) fun i j => .int (i % j)) (.int i) (.int j) (.int (i % j)) := rd_I (g := fun i j => i % j) h
theorem rd_fdiv {i j : Int} (h : 0 < j ∧ j < 1073741824) : Rd2 K (rI CDiv fun i j => .int (i / j)) (.int i) (.int j) (.int (i / j)) := rd_I (g := fun i j => i / j) h
theorem rd_mulR {i j : Int} (h : -18446744073709551616 < j ∧ j < 18446744073709551616) : Rd2 K (rI CMul fun i j => .int (i * j)) (.int i) (.int j) (.int (i * j)) := rd_I (g := fun i j => i * j) (.inr ⟨by omega, by omega⟩)
theorem rd_mulL {i j : Int} (h : -18446744073709551616 < i ∧ i < 18446744073709551616) : Rd2 K (rI CMul fun i j => .int (i * j)) (.int i) (.int j) (.int (i * j)) := rd_I (g := fun i j => i * j) (.inl ⟨by omega, by omega⟩)
theorem rd_pow {i j : Int} (h : 0 ≤ j ∧ j ≤ 1000000 ∧ i.natAbs < 2 ^ 64) : Rd2 K (rI CPow fun i j => .int (i ^ j.toNat)) (.int i) (.int j) (.int (i ^ j.toNat)) := rd_I (g := fun i j => i ^ j.toNat) h
theorem rd_add {i j : Int} : Rd2 K (rI0 fun i j => .int (i + j)) (.int i) (.int j) (.int (i + j)) := rd_I0 (g := fun i j => i + j)
theorem rd_sub {i j : Int} : Rd2 K (rI0 fun i j => .int (i - j)) (.int i) (.int j) (.int (i - j)) := rd_I0 (g := fun i j => i - j)
theorem rd_lt {i j : Int} : Rd2 K (rI0 fun i j => .bl (decide (i < j))) (.int i) (.int j) (.bool (decide (i < j))) := rd_IB (g := fun i j => decide (i < j))
theorem rd_le {i j : Int} : Rd2 K (rI0 fun i j => .bl (decide (i ≤ j))) (.int i) (.int j) (.bool (decide (i ≤ j))) := rd_IB (g := fun i j => decide (i ≤ j))
theorem rd_gt {i j : Int} : Rd2 K (rI0 fun i j => .bl (decide (j < i))) (.int i) (.int j) (.bool (decide (j < i))) := rd_IB (g := fun i j => decide (j < i))
theorem rd_ge {i j : Int} : Rd2 K (rI0 fun i j => .bl (decide (j ≤ i))) (.int i) (.int j) (.bool (decide (j ≤ i))) := rd_IB (g := fun i j => decide (j ≤ i))
/-! ### == on scalars, on any data -/
theorem shp_int {i : Int} : SeqAt.shaped (.int i) = true := by simp [SeqAt.shaped, PyData.canLay0, PyData.depth]
theorem shp_bl {i : Bool} : SeqAt.shaped (.bool i) = true := by simp [SeqAt.shaped, PyData.canLay0, PyData.depth]
theorem shp_non : SeqAt.shaped .none = true := by simp [SeqAt.shaped, PyData.canLay0, PyData.depth]
theorem rd_eqI {i j : Int} : Rd2 K (rEqD K) (.int i) (.int j) (.bool (decide (i = j))) := fun v u H Q p q k => rd_eqD shp_int shp_int v u H Q p q fun v' H2 e2 h => k v' H2 e2 (by
  have : PyData.eqv (.int i) (.int j) = decide (i = j) := by rw [PyData.eqv]; exact Bool.beq_eq_decide_eq i j
  rw [← this]; exact h)
theorem rd_neI {i j : Int} : Rd2 K (rNeD K) (.int i) (.int j) (.bool (decide (i ≠ j))) := fun v u H Q p q k => rd_neD shp_int shp_int v u H Q p q fun v' H2 e2 h => k v' H2 e2 (by
  have : (!PyData.eqv (.int i) (.int j)) = decide (i ≠ j) := by rw [PyData.eqv, Bool.beq_eq_decide_eq i j]; exact (decide_not).symm
  rw [← this]; exact h)
theorem shp_str {x : Str} (h : PyData.strOk x = true) : SeqAt.shaped (.str x) = true := by simp [SeqAt.shaped, PyData.canLay0, PyData.depth, h]
theorem rd_eqS {x y : Str} (hx : PyData.strOk x = true) (hy : PyData.strOk y = true) : Rd2 K (rEqD K) (.str x) (.str y) (.bool (decide (x = y))) := fun v u H Q p q k => rd_eqD (shp_str hx) (shp_str hy) v u H Q p q fun v' H2 e2 h => k v' H2 e2 (by
  have : PyData.eqv (.str x) (.str y) = decide (x = y) := by rw [PyData.eqv]; exact Bool.beq_eq_decide_eq x y
  rw [← this]; exact h)
theorem rd_neS {x y : Str} (hx : PyData.strOk x = true) (hy : PyData.strOk y = true) : Rd2 K (rNeD K) (.str x) (.str y) (.bool (decide (x ≠ y))) := fun v u H Q p q k => rd_neD (shp_str hx) (shp_str hy) v u H Q p q fun v' H2 e2 h => k v' H2 e2 (by
  have : (!PyData.eqv (.str x) (.str y)) = decide (x ≠ y) := by rw [PyData.eqv, Bool.beq_eq_decide_eq x y]; exact (decide_not).symm
  rw [← this]; exact h)
/-! ### in a written tuple of texts -/
theorem inV_strs {x : Str} : ∀ {ys : List Str}, inV (.str x) (ys.map V.str) = decide (x ∈ ys)
  | [] => by simp [inV]
  | y :: ys => by
    have ih := inV_strs (x := x) (ys := ys)
    unfold inV at ih ⊢
    rw [List.map_cons, List.any_cons, ih]
    have e : eqV (V.str y) (V.str x) = decide (x = y) := by
      show (y == x) = _
      rw [Bool.beq_eq_decide_eq]
      exact decide_eq_decide.mpr ⟨Eq.symm, Eq.symm⟩
    rw [e, ← Bool.decide_or]
    exact decide_eq_decide.mpr List.mem_cons.symm
theorem of_dps_strs : ∀ {ns : List Str} {vs : List V}, DpAll K H vs (ns.map .str) → vs = ns.map V.str
  | [], _, h => by cases h; rfl
  | n :: r, _, h => by
    cases h with
    | cons a t => cases a; exact congrArg _ (of_dps_strs t)
theorem flats (ys : List Str) : (ys.map V.str).all flatV = true := by
  rw [List.all_eq_true]
  intro x hx
  obtain ⟨y, _, rfl⟩ := List.mem_map.mp hx
  rfl
theorem rd_inT {x : Str} {ys : List Str} (e : ds = ys.map .str) : Rd2 K (rIn K false) (.str x) (.tuple ds) (.bool (decide (x ∈ ys))) := fun v u H Q p q k => by
  subst e
  obtain ⟨a, xs, rfl, hs, hd⟩ := dp_tup q
  obtain rfl := of_dps_strs hd
  obtain rfl := dp_str p
  refine ⟨a, _, rfl, .inr hs, rfl, flats ys, ?_⟩
  show Q (.bl (inV (.str x) (ys.map V.str))) H
  rw [inV_strs]
  exact k _ H ex_rfl (.bl _)
theorem rd_niT {x : Str} {ys : List Str} (e : ds = ys.map .str) : Rd2 K (rIn K true) (.str x) (.tuple ds) (.bool (!decide (x ∈ ys))) := fun v u H Q p q k => by
  subst e
  obtain ⟨a, xs, rfl, hs, hd⟩ := dp_tup q
  obtain rfl := of_dps_strs hd
  obtain rfl := dp_str p
  refine ⟨a, _, rfl, .inr hs, rfl, flats ys, ?_⟩
  show Q (.bl (!inV (.str x) (ys.map V.str))) H
  rw [inV_strs]
  exact k _ H ex_rfl (.bl _)
/-! ### is -/
theorem rd_isN : Rd2 K (fun x y H Q => y = .non ∧ Q (.bl (decide (x = .non))) H) d .none (.bool (decide (tyN d = "NoneType"))) := fun v u H Q p q k => by
  obtain rfl := dp_non q
  refine ⟨rfl, ?_⟩
  have e : decide (v = V.non) = decide (tyN d = "NoneType") := by
    cases p <;> first | rfl | exact decide_eq_decide.mpr ⟨fun z => (nomatch z), fun z => absurd z (by simp [tyN])⟩
  rw [e]
  exact k _ H ex_rfl (.bl _)
theorem rd_notN : Rd2 K (fun x y H Q => y = .non ∧ Q (.bl (!decide (x = .non))) H) d .none (.bool (!decide (tyN d = "NoneType"))) := fun v u H Q p q k => by
  obtain rfl := dp_non q
  refine ⟨rfl, ?_⟩
  have e : decide (v = V.non) = decide (tyN d = "NoneType") := by
    cases p <;> first | rfl | exact decide_eq_decide.mpr ⟨fun z => (nomatch z), fun z => absurd z (by simp [tyN])⟩
  rw [e]
  exact k _ H ex_rfl (.bl _)
theorem rd_isB {a b : Bool} : Rd2 K rIsB (.bool a) (.bool b) (.bool (decide (a = b))) := fun v u H Q p q k => ⟨a, b, dp_bl p, dp_bl q, k _ H ex_rfl (.bl _)⟩
theorem rd_notB {a b : Bool} : Rd2 K rNotB (.bool a) (.bool b) (.bool (!decide (a = b))) := fun v u H Q p q k => ⟨a, b, dp_bl p, dp_bl q, k _ H ex_rfl (.bl _)⟩
/-! ### min, max, abs of ints -/
theorem rd_min2 {i j : Int} : RdC K (fun xs H Q => ∃ i j, xs = [.int i, .int j] ∧ Q (.int (if j < i then j else i)) H) [.int i, .int j] (.int (min i j)) := fun vs H Q p k => by
  obtain ⟨v, r, rfl, h1, h2⟩ := dps_cons p
  obtain ⟨v', r', rfl, h3, h4⟩ := dps_cons h2
  obtain rfl := dps_nil h4
  obtain rfl := dp_int h1
  obtain rfl := dp_int h3
  refine ⟨i, j, rfl, ?_⟩
  have e : (if j < i then j else i) = min i j := by
    split <;> omega
  rw [e]
  exact k _ H ex_rfl (.int _)
theorem rd_max2 {i j : Int} : RdC K (fun xs H Q => ∃ i j, xs = [.int i, .int j] ∧ Q (.int (if j > i then j else i)) H) [.int i, .int j] (.int (max i j)) := fun vs H Q p k => by
  obtain ⟨v, r, rfl, h1, h2⟩ := dps_cons p
  obtain ⟨v', r', rfl, h3, h4⟩ := dps_cons h2
  obtain rfl := dps_nil h4
  obtain rfl := dp_int h1
  obtain rfl := dp_int h3
  refine ⟨i, j, rfl, ?_⟩
  have e : (if j > i then j else i) = max i j := by
    split <;> omega
  rw [e]
  exact k _ H ex_rfl (.int _)
theorem rd_abs {i : Int} : RdC K (fun xs H Q => ∃ i, xs = [.int i] ∧ Q (.int (if i < 0 then -i else i)) H) [.int i] (.int i.natAbs) := fun vs H Q p k => by
  obtain ⟨v, r, rfl, h1, h2⟩ := dps_cons p
  obtain rfl := dps_nil h2
  obtain rfl := dp_int h1
  refine ⟨i, rfl, ?_⟩
  have e : (if i < 0 then -i else i) = (i.natAbs : Int) := by
    split <;> omega
  rw [e]
  exact k _ H ex_rfl (.int _)
end
section
variable {X : Cx}
/-- a module's constant -/
theorem pe_gint {x : Str} {i : Int} {pos : Pos} (h : ∃ t, X.mg x = some (.int i t)) (hg : Gl X x := by rfl) (hd : (x == ("__debug__" : Str)) = false := by decide) : PE X (.Name x pos) (tC (.int i)) := by
  obtain ⟨t, h⟩ := h
  exact pe_glob hg h ⟨t, rfl⟩ hd
theorem pe_gstr {x : Str} {i : Str} {pos : Pos} (h : ∃ t, X.mg x = some (.str i t)) (hg : Gl X x := by rfl) (hd : (x == ("__debug__" : Str)) = false := by decide) : PE X (.Name x pos) (tC (.str i)) := by
  obtain ⟨t, h⟩ := h
  exact pe_glob hg h ⟨t, rfl⟩ hd
theorem hu65 {k : Nat} {A : Around} (hr : Room k A) : A.units + 65 < cLine := by
  have h := hr.un
  have hd := hr.hd
  omega
end
/-! ### while -/
section
variable {σ : L2.St} {H : Hp} {t : TT} {tu tz : TS} {D : Ends}
theorem w_while (W : Nat → L2.St → Hp → Prop) (m0 : Nat) (h0 : W m0 σ H)
    (hs : ∀ m σ' H', W m σ' H' → ∃ b, Yt t σ' H' b ∧ (b = true → ∀ H1, Ex H' H1 → tu { D with nx := fun σ2 H2 => ∃ m', m' < m ∧ W m' σ2 H2, ct := fun σ2 H2 => ∃ m', m' < m ∧ W m' σ2 H2, bk := tz D } σ' H1) ∧ (b = false → ∀ H1, Ex H' H1 → tz D σ' H1)) : tSeq (tWhile t tu) tz D σ H :=
  Evl.q_while W m0 h0 fun m σ' H' hw => by
    obtain ⟨b, h1, h2, h3⟩ := hs m σ' H' hw
    exact ⟨b, h1, fun hb H1 e1 => ⟨_, fun _ _ h => h, h2 hb H1 e1⟩, h3⟩
end
end Wc
namespace Wc
open PySem PySem.Spec PyProof.Rows L2
def isT (n : String) (d : Dt) : Bool := match d with
  | .none => false
  | .bool _ => n == "bool" || n == "int"
  | .int _ => n == "int"
  | .str _ => n == "str"
  | .list _ => n == "list"
  | .tuple _ => n == "tuple"
  | .dict _ => false
theorem kit_isT {d : Dt} (hd : ∀ x, d ≠ .dict x) {n : String} (hn : n ∈ ["int", "bool", "str", "list", "tuple"]) : kitB (tyN d) n = some (isT n d) := by
  simp only [List.mem_cons, List.mem_nil_iff, or_false] at hn
  cases d with
  | dict x => exact absurd rfl (hd x)
  | _ => rcases hn with rfl | rfl | rfl | rfl | rfl <;> (simp only [tyN, isT]; decide +kernel)
theorem yd_isiT {K : Fg} {σ : L2.St} {H : Hp} {te : TE} {d : Dt} {n : String} (h : Yd K te σ H d) (hn : n ∈ ["int", "bool", "str", "list", "tuple"]) : Yd K (tCB (rIsi K) (tCons te (tCons (tC (.ty n)) tNil))) σ H (.bool (isT n d)) := fun H1 x Q q =>
  h H1 x _ fun v H2 e2 p2 => ⟨v, .ty n, _, _, isT n d, rfl, .ty n, tyX_of p2, kit_ty (kit_isT (fun y z => by rw [z] at p2; cases p2) hn), q _ H2 e2 (.bl _)⟩
end Wc
namespace Wc
open PySem PySem.Spec PyProof.Rows L2
section
variable {K : Fg} {a b c : Dt} {r ds : List Dt}
theorem rd_t0 : Rd2 K (rIx K) (.tuple (a :: r)) (.int 0) a := rd_ixT (atI_nat (j := 0) rfl)
theorem rd_t1 : Rd2 K (rIx K) (.tuple (a :: b :: r)) (.int 1) b := rd_ixT (atI_nat (j := 1) rfl)
theorem rd_t2 : Rd2 K (rIx K) (.tuple (a :: b :: c :: r)) (.int 2) c := rd_ixT (atI_nat (j := 2) rfl)
theorem rd_l0 : Rd2 K (rIx K) (.list (a :: r)) (.int 0) a := rd_ixL (atI_nat (j := 0) rfl)
theorem rd_ln {j : Nat} (h : ds[j]? = some a) : Rd2 K (rIx K) (.list ds) (.int (j : Int)) a := rd_ixL (atI_nat h)
theorem rd_li {i : Int} (h0 : 0 ≤ i) (h : ds[i.toNat]? = some a) : Rd2 K (rIx K) (.list ds) (.int i) a := by
  have e : ((i.toNat : Nat) : Int) = i := by omega
  have := rd_ln (K := K) h
  rw [e] at this
  exact this
theorem rd_lm {xs : List Dt} : Rd2 K (rIx K) (.list (xs ++ [a])) (.int (-1)) a := rd_ixL (atI_last xs a)
end
end Wc
namespace Wc
open PySem PySem.Spec PyProof.Rows L2
section
variable {K : Fg} {σ : L2.St} {H : Hp} {ta : TA} {te : TE} {d e : Dt} {ds : List Dt} {D : Ends} {tz : TS} {i j : Nat}
/-! the last statement of a block -/
theorem z_par (h : Ya K ta σ H [d, e]) (k : ∀ v w H1, Ex H H1 → Dp K H1 v d → Dp K H1 w e → D.nx ((σ.set i (some v)).set j (some w)) H1) : tPar i j ta D σ H := h H ex_rfl _ fun vs H1 e1 p => by
  obtain ⟨v, r, rfl, h1, h2⟩ := dps_cons p
  obtain ⟨w, r2, rfl, h3, h4⟩ := dps_cons h2
  obtain rfl := dps_nil h4
  exact ⟨v, w, rfl, k v w H1 e1 h1 h3⟩
theorem z_parI {x y : Int} (h : Ya K ta σ H [.int x, .int y]) (k : ∀ H1, Ex H H1 → D.nx ((σ.set i (some (.int x))).set j (some (.int y))) H1) : tPar i j ta D σ H := z_par h fun v w H1 e1 p q => by
  obtain rfl := dp_int p
  obtain rfl := dp_int q
  exact k H1 e1
theorem a_parI {x y : Int} (h : Ya K ta σ H [.int x, .int y]) (k : ∀ H1, Ex H H1 → tz D ((σ.set i (some (.int x))).set j (some (.int y))) H1) : tSeq (tPar i j ta) tz D σ H := a_par h fun v w H1 e1 p q => by
  obtain rfl := dp_int p
  obtain rfl := dp_int q
  exact k H1 e1
theorem z_val (h : Yd K te σ H d) (k : ∀ v H1, Ex H H1 → Dp K H1 v d → D.nx (σ.set i (some v)) H1) : tAsg te (gName i) D σ H := h H ex_rfl _ k
theorem z_int {n : Int} (h : Yd K te σ H (.int n)) (k : ∀ H1, Ex H H1 → D.nx (σ.set i (some (.int n))) H1) : tAsg te (gName i) D σ H := h H ex_rfl _ fun v H1 e1 p => by
  obtain rfl := dp_int p
  exact k H1 e1
theorem z_drop (h : Yd K te σ H d) (k : ∀ H1, Ex H H1 → D.nx σ H1) : tDrop te D σ H := h H ex_rfl _ fun _ H1 e1 _ => k H1 e1
end
end Wc
namespace Wc
open PySem PySem.Spec PyProof.Rows L2
section
variable {σ : L2.St} {H : Hp} {t : TT} {tu tz : TS} {D : Ends}
theorem i_when {b : Bool} (h : Yt t σ H b) (h1 : b = true → ∀ H1, Ex H H1 → tu { D with nx := tz D } σ H1) (h2 : b = false → ∀ H1, Ex H H1 → tz D σ H1) : tSeq (tIfS t tu tNext) tz D σ H := Evl.q_when h h1 h2
theorem j_when {b : Bool} (h : Yt t σ H b) (h1 : b = true → ∀ H1, Ex H H1 → tu D σ H1) (h2 : b = false → ∀ H1, Ex H H1 → D.nx σ H1) : tIfS t tu tNext D σ H := Evl.s_when h h1 h2
theorem j_nox (h : Yt t σ H false) (k : ∀ H1, Ex H H1 → D.nx σ H1) : tIfS t tu tNext D σ H := Evl.s_when h (fun z => nomatch z) fun _ => k
end
end Wc

/-! Equality of plain data; the law's draws: what stays beside them. -/
namespace Wc
open PySem PySem.Spec PyProof.Rows L2
theorem canlay_ints : ∀ ns : List Int, PyData.canLayAll0 (ns.map .int) = true
  | [] => by simp [PyData.canLayAll0]
  | n :: r => by
    show PyData.canLayAll0 (.int n :: r.map .int) = true
    rw [PyData.canLayAll0, canlay_ints r]
    simp [PyData.canLay0]
theorem depth_ints : ∀ ns : List Int, PyData.depthAll (ns.map .int) = 0
  | [] => by simp [PyData.depthAll]
  | n :: r => by
    show PyData.depthAll (.int n :: r.map .int) = 0
    rw [PyData.depthAll, depth_ints r]
    simp [PyData.depth]
theorem shp_ints (ns : List Int) : SeqAt.shaped (.list (ns.map .int)) = true := by
  unfold SeqAt.shaped
  rw [PyData.canLay0, canlay_ints, PyData.depth, depth_ints] <;> rfl
theorem eqv_ints : ∀ ns ms : List Int, PyData.eqvAll (ns.map .int) (ms.map .int) = decide (ns = ms)
  | [], [] => by simp [PyData.eqvAll]
  | [], m :: r => by simp [PyData.eqvAll]
  | n :: r, [] => by simp [PyData.eqvAll]
  | n :: r, m :: t => by
    show PyData.eqvAll (.int n :: r.map .int) (.int m :: t.map .int) = _
    rw [PyData.eqvAll, eqv_ints r t, PyData.eqv, Bool.beq_eq_decide_eq, ← Bool.decide_and]
    exact decide_eq_decide.mpr ⟨fun h => by rw [h.1, h.2], fun h => ⟨(List.cons.inj h).1, (List.cons.inj h).2⟩⟩
section
variable {K : Fg} {σ : L2.St} {H : Hp} {t : TT} {ta tb : TE} {ds : List Dt}
theorem rd_eqL {ns ms : List Int} : Rd2 K (rEqD K) (.list (ns.map .int)) (.list (ms.map .int)) (.bool (decide (ns = ms))) := fun v u H Q p q k => rd_eqD (shp_ints ns) (shp_ints ms) v u H Q p q fun v' H2 e2 h => k v' H2 e2 (by
  rw [← eqv_ints, ← PyData.eqv]; exact h)
theorem rd_neL {ns ms : List Int} : Rd2 K (rNeD K) (.list (ns.map .int)) (.list (ms.map .int)) (.bool (decide (ns ≠ ms))) := fun v u H Q p q k => rd_neD (shp_ints ns) (shp_ints ms) v u H Q p q fun v' H2 e2 h => k v' H2 e2 (by
  have : (!PyData.eqv (.list (ns.map .int)) (.list (ms.map .int))) = decide (ns ≠ ms) := by rw [PyData.eqv, eqv_ints]; exact decide_not.symm
  rw [← this]; exact h)
theorem yn_if {b : Bool} (h : Yt t σ H b) (h1 : b = true → Yn K ta σ H ds) (h2 : b = false → Yn K tb σ H ds) : Yn K (tIf t ta tb) σ H ds := fun H1 x Q q => h H1 x _ fun H2 e2 => by
  cases b with
  | true => exact h1 rfl H2 (x.trans e2) Q fun p xs H3 hp e3 h3 p3 => q p xs H3 (Evl.fresh_back e2 hp) (e2.trans e3) h3 p3
  | false => exact h2 rfl H2 (x.trans e2) Q fun p xs H3 hp e3 h3 p3 => q p xs H3 (Evl.fresh_back e2 hp) (e2.trans e3) h3 p3
theorem rn_list : RnC K (fun xs H Q => ∃ p ys, xs = [.ref p] ∧ (SqL K H p ys ∨ SqT K H p ys) ∧ ∀ l, H l = none → Q (.ref l) (upd H l (.lst ys))) [.list ds] ds := fun vs H Q p k => by
  obtain ⟨v, r, rfl, h1, h2⟩ := dps_cons p
  obtain rfl := dps_nil h2
  obtain ⟨a, xs, rfl, hs, hd⟩ := dp_lst h1
  exact ⟨a, xs, rfl, .inl hs, fun l hl => k l xs _ hl (Evl.Ex.new hl) upd_same (dps_ex (Evl.Ex.new hl) hd)⟩
end
/-- the draws: p the pair, q the numbers -/
def Dr (H : Hp) (p q : Addr) : Prop := p ≠ q ∧ ∃ (c : Int) (ns : List Int), H p = some (.lst [.ref q, .int c]) ∧ H q = some (.lst (ns.map V.int)) ∧ ns ≠ [] ∧ ns.length ≤ 100
/-- all but the draws stays -/
def Exd (p q : Addr) (H H' : Hp) : Prop := ∀ a o, a ≠ p → a ≠ q → H a = some o → H' a = some o
theorem Exd.trans {p q : Addr} {H H1 H2 : Hp} (a : Exd p q H H1) (b : Exd p q H1 H2) : Exd p q H H2 := fun x o h1 h2 h => b x o h1 h2 (a x o h1 h2 h)
theorem Exd.of_ex {p q : Addr} {H H1 : Hp} (a : Ex H H1) : Exd p q H H1 := fun x o _ _ h => a x o h
theorem Dr.ex {p q : Addr} {H H1 : Hp} (a : Ex H H1) (h : Dr H p q) : Dr H1 p q := by
  obtain ⟨n, c, ns, h1, h2, h3⟩ := h
  exact ⟨n, c, ns, a _ _ h1, a _ _ h2, h3⟩
/-- the heap without the draws -/
def msk (p q : Addr) (H : Hp) : Hp := fun a => if a = p ∨ a = q then none else H a
theorem msk_ex {p q : Addr} {H : Hp} : Ex (msk p q H) H := fun a o h => by
  unfold msk at h
  split at h
  · cases h
  · exact h
theorem msk_exd {p q : Addr} {H H' : Hp} (e : Exd p q H H') : Ex (msk p q H) H' := fun a o h => by
  unfold msk at h
  split at h
  · cases h
  · rename_i n
    exact e a o (fun z => n (.inl z)) (fun z => n (.inr z)) h
theorem msk_p {p q : Addr} {H : Hp} : msk p q H p = none := by unfold msk; rw [if_pos (.inl rfl)]
theorem msk_q {p q : Addr} {H : Hp} : msk p q H q = none := by unfold msk; rw [if_pos (.inr rfl)]
theorem msk_at {p q : Addr} {H : Hp} {a : Addr} (h1 : a ≠ p) (h2 : a ≠ q) : msk p q H a = H a := by
  unfold msk
  rw [if_neg (fun z => z.elim h1 h2)]
def spStart (K : Fg) : Sp := fun vs H Q _ => ∃ (a : Addr) (ns : List Int), vs = [.ref a] ∧ SqL K H a (ns.map V.int) ∧ ns.length ≤ 63 ∧ ∀ p q H2, H p = none → H q = none → Ex H H2 → Dr H2 p q → Q (.ref p) H2
def spDraw : Sp := fun vs H Q _ => ∃ (p q : Addr) (n : Int), vs = [.ref p, .int n] ∧ 0 < n ∧ n ≤ 1000001 ∧ Dr H p q ∧ ∀ r H2, 0 ≤ r → r < n → Exd p q H H2 → Dr H2 p q → Q (.int r) H2
def spPick (K : Fg) : Sp := fun vs H Q _ => ∃ (p q a : Addr) (xs : List V), vs = [.ref p, .ref a] ∧ Dr H p q ∧ SqL K (msk p q H) a xs ∧ xs ≠ [] ∧ xs.length ≤ 1000 ∧ ∀ x H2, x ∈ xs → Exd p q H H2 → Dr H2 p q → Q x H2
/-! ### plain data: ints, texts, bools apart -/
mutual
def pl : Dt → Bool
  | .int _ => true
  | .str x => PyData.strOk x
  | .list xs => pls xs
  | .tuple xs => pls xs
  | _ => false
def pls : List Dt → Bool
  | [] => true
  | x :: r => pl x && pls r
end
mutual
theorem eqv_pl : ∀ {d e : Dt}, pl d = true → pl e = true → (PyData.eqv d e = true ↔ d = e)
  | .int i, .int j, _, _ => by rw [PyData.eqv, beq_iff_eq]; simp
  | .str x, .str y, _, _ => by rw [PyData.eqv, beq_iff_eq]; simp
  | .list xs, .list ys, h, g => by rw [pl] at h g; rw [PyData.eqv, eqv_pls h g]; simp
  | .tuple xs, .tuple ys, h, g => by rw [pl] at h g; rw [PyData.eqv, eqv_pls h g]; simp
  | .int _, .str _, _, _ | .int _, .list _, _, _ | .int _, .tuple _, _, _ => by simp [PyData.eqv]
  | .str _, .int _, _, _ | .str _, .list _, _, _ | .str _, .tuple _, _, _ => by simp [PyData.eqv]
  | .list _, .int _, _, _ | .list _, .str _, _, _ | .list _, .tuple _, _, _ => by simp [PyData.eqv]
  | .tuple _, .int _, _, _ | .tuple _, .str _, _, _ | .tuple _, .list _, _, _ => by simp [PyData.eqv]
  | .none, _, h, _ => by simp [pl] at h
  | .bool _, _, h, _ => by simp [pl] at h
  | .dict _, _, h, _ => by simp [pl] at h
  | .int _, .none, _, h | .str _, .none, _, h | .list _, .none, _, h | .tuple _, .none, _, h => by simp [pl] at h
  | .int _, .bool _, _, h | .str _, .bool _, _, h | .list _, .bool _, _, h | .tuple _, .bool _, _, h => by simp [pl] at h
  | .int _, .dict _, _, h | .str _, .dict _, _, h | .list _, .dict _, _, h | .tuple _, .dict _, _, h => by simp [pl] at h
theorem eqv_pls : ∀ {ds es : List Dt}, pls ds = true → pls es = true → (PyData.eqvAll ds es = true ↔ ds = es)
  | [], [], _, _ => by simp [PyData.eqvAll]
  | [], _ :: _, _, _ => by simp [PyData.eqvAll]
  | _ :: _, [], _, _ => by simp [PyData.eqvAll]
  | x :: r, y :: s, h, g => by
    rw [pls, Bool.and_eq_true] at h g
    rw [PyData.eqvAll, Bool.and_eq_true, eqv_pl h.1 g.1, eqv_pls h.2 g.2]
    simp
end
mutual
theorem lay_pl : ∀ {d : Dt}, pl d = true → PyData.canLay0 d = true
  | .int _, _ => by rw [PyData.canLay0]
  | .str _, h => by rw [pl] at h; rw [PyData.canLay0]; exact h
  | .list _, h => by rw [pl] at h; rw [PyData.canLay0]; exact lay_pls h
  | .tuple _, h => by rw [pl] at h; rw [PyData.canLay0]; exact lay_pls h
  | .none, h => by simp [pl] at h
  | .bool _, h => by simp [pl] at h
  | .dict _, h => by simp [pl] at h
theorem lay_pls : ∀ {ds : List Dt}, pls ds = true → PyData.canLayAll0 ds = true
  | [], _ => by rw [PyData.canLayAll0]
  | x :: r, h => by
    rw [pls, Bool.and_eq_true] at h
    rw [PyData.canLayAll0, lay_pl h.1, lay_pls h.2] <;> rfl
end
theorem pls_mem {ds : List Dt} : (∀ d ∈ ds, pl d = true) → pls ds = true := by
  induction ds with
  | nil => intro _; rw [pls]
  | cons x r ih => intro h; rw [pls, h x List.mem_cons_self, ih fun d hd => h d (List.mem_cons_of_mem _ hd)] <;> rfl
theorem pls_map {α : Type} {l : List α} {f : α → Dt} (h : ∀ x, pl (f x) = true) : pls (l.map f) = true := pls_mem fun d hd => by
  obtain ⟨x, _, rfl⟩ := List.mem_map.mp hd
  exact h x
/-- nested at most so deep -/
theorem depth_mem {n : Nat} : ∀ {ds : List Dt}, (∀ d ∈ ds, d.depth ≤ n) → PyData.depthAll ds ≤ n
  | [], _ => by rw [PyData.depthAll]; exact Nat.zero_le _
  | x :: r, h => by
    rw [PyData.depthAll]
    exact Nat.max_le.mpr ⟨h x List.mem_cons_self, depth_mem fun d hd => h d (List.mem_cons_of_mem _ hd)⟩
theorem depth_map {α : Type} {l : List α} {f : α → Dt} {n : Nat} (h : ∀ x, (f x).depth ≤ n) : PyData.depthAll (l.map f) ≤ n := depth_mem fun d hd => by
  obtain ⟨x, _, rfl⟩ := List.mem_map.mp hd
  exact h x
theorem shp_pl {d : Dt} (h : pl d = true) (hd : d.depth ≤ 64) : SeqAt.shaped d = true := by
  unfold SeqAt.shaped
  rw [lay_pl h, decide_eq_true hd] <;> rfl
section
variable {K : Fg} {σ : L2.St} {H M : Hp} {t : TT} {te tu ta tb tl : TE} {d e : Dt} {ds : List Dt} {p q : Addr} {φ ψ : V → Prop} {D : Ends} {tz : TS} {i j : Nat}
theorem rd_eqP {b : Bool} (h : pl d = true) (h' : pl e = true) (g : d.depth ≤ 64) (g' : e.depth ≤ 64) (hb : b = true ↔ d = e) : Rd2 K (rEqD K) d e (.bool b) := fun v u H Q p q k => rd_eqD (shp_pl h g) (shp_pl h' g') v u H Q p q fun v' H2 e2 x => k v' H2 e2 (by
  have : PyData.eqv d e = b := Bool.eq_iff_iff.mpr ((eqv_pl h h').trans hb.symm)
  rw [← this]; exact x)
theorem rd_neP {b : Bool} (h : pl d = true) (h' : pl e = true) (g : d.depth ≤ 64) (g' : e.depth ≤ 64) (hb : b = true ↔ d ≠ e) : Rd2 K (rNeD K) d e (.bool b) := fun v u H Q p q k => rd_neD (shp_pl h g) (shp_pl h' g') v u H Q p q fun v' H2 e2 x => k v' H2 e2 (by
  have : (!PyData.eqv d e) = b := Bool.eq_iff_iff.mpr (by rw [Bool.not_eq_true', ← Bool.not_eq_true, eqv_pl h h']; exact hb.symm)
  rw [← this]; exact x)
/-! ### readings that draw -/
structure Md (M : Hp) (p q : Addr) (H : Hp) : Prop where
  ex : Ex M H
  mp : M p = none
  mq : M q = none
  dr : Dr H p q
theorem Md.next {H2 : Hp} (h : Md M p q H) (e : Exd p q H H2) (d : Dr H2 p q) : Md M p q H2 := ⟨fun a o ha => e a o (fun z => by rw [z, h.mp] at ha; cases ha) (fun z => by rw [z, h.mq] at ha; cases ha) (h.ex a o ha), h.mp, h.mq, d⟩
theorem Md.step {H2 : Hp} (h : Md M p q H) (e : Ex H H2) : Md M p q H2 := h.next (Exd.of_ex e) (h.dr.ex e)
theorem Md.up (h : Md M p q H) : Ex M (msk p q H) := fun a o ha => by
  rw [msk_at (fun z => by rw [z, h.mp] at ha; cases ha) (fun z => by rw [z, h.mq] at ha; cases ha)]
  exact h.ex a o ha
theorem Md.re (h : Dr H p q) : Md (msk p q H) p q H := ⟨msk_ex, msk_p, msk_q, h⟩
theorem msk_l {a : Addr} {xs : List V} (h : H a = some (.lst xs)) (h1 : a ≠ p) (h2 : a ≠ q) : SqL K (msk p q H) a xs := SqL.of (by rw [msk_at h1 h2]; exact h)
theorem msk_t {a : Addr} {xs : List V} (hd : Dr H p q) (h : SqT K H a xs) : SqT K (msk p q H) a xs := by
  obtain ⟨_, c, ns, h1, h2, _⟩ := hd
  rcases h with (h | ⟨o, h⟩) | h
  · refine .inl (.inl ?_)
    rw [msk_at (fun z => by rw [z, h1] at h; cases h) (fun z => by rw [z, h2] at h; cases h)]
    exact h
  · refine .inl (.inr ⟨o, ?_⟩)
    rw [msk_at (fun z => by rw [z, h1] at h; cases h) (fun z => by rw [z, h2] at h; cases h)]
    exact h
  · exact .inr h
mutual
theorem dp_msk (hd : Dr H p q) : ∀ {d : Dt} {v : V}, noLst d = true → Dp K H v d → Dp K (msk p q H) v d
  | .none, _, _, h => by cases h; exact .non
  | .bool _, _, _, h => by cases h; exact .bl _
  | .int _, _, _, h => by cases h; exact .int _
  | .str _, _, _, h => by cases h; exact .str _
  | .list _, _, n, _ => by simp [noLst] at n
  | .tuple _, _, n, h => by
    rw [noLst] at n
    cases h with
    | tup a b => exact .tup (msk_t hd a) (dps_msk hd n b)
  | .dict _, _, _, h => by cases h
theorem dps_msk (hd : Dr H p q) : ∀ {ds : List Dt} {vs : List V}, noLsts ds = true → DpAll K H vs ds → DpAll K (msk p q H) vs ds
  | [], _, _, h => by cases h; exact .nil
  | _ :: _, _, n, h => by
    rw [noLsts, Bool.and_eq_true] at n
    cases h with
    | cons a b => exact .cons (dp_msk hd n.1 a) (dps_msk hd n.2 b)
end
/-- a reading that draws and gives a scalar -/
def Zv (M : Hp) (p q : Addr) (t : TE) (σ : L2.St) (φ : V → Prop) : Prop := ∀ H, Md M p q H → ∀ Q : VK, (∀ v H2, φ v → Md M p q H2 → Q v H2) → t σ H Q
abbrev isI (φ : Int → Prop) : V → Prop := fun v => ∃ n, v = .int n ∧ φ n
theorem zv_to (h : Zv M p q te σ φ) (k : ∀ v, φ v → ψ v) : Zv M p q te σ ψ := fun H hm Q x => h H hm Q fun v H2 hv => x v H2 (k v hv)
theorem zi_pure {n : Int} (h : Yd K te σ M (.int n)) : Zv M p q te σ (isI fun m => m = n) := fun H hm Q x => h H hm.ex Q fun v H2 e2 p2 => x v H2 ⟨n, dp_int p2, rfl⟩ (hm.step e2)
theorem zi_op {R : R2} {α β : Int → Prop} {f : Int → Int → Int} (h1 : Zv M p q te σ (isI α)) (h2 : Zv M p q tu σ (isI β)) (hr : ∀ a b, α a → β b → Rd2 K R (.int a) (.int b) (.int (f a b))) : Zv M p q (tOp R te tu) σ (isI fun c => ∃ a b, α a ∧ β b ∧ c = f a b) := fun H hm Q x =>
  h1 H hm _ fun v H2 ⟨a, ea, pa⟩ m2 => h2 H2 m2 _ fun u H3 ⟨b, eb, pb⟩ m3 => by
    subst ea eb
    exact hr a b pa pb _ _ H3 Q (.int _) (.int _) fun v' H4 e4 p4 => x v' H4 ⟨_, dp_int p4, a, b, pa, pb, rfl⟩ (m3.step e4)
theorem z_if {b : Bool} (h : Yt t σ M b) (h1 : b = true → Zv M p q ta σ φ) (h2 : b = false → Zv M p q tb σ φ) : Zv M p q (tIf t ta tb) σ φ := fun H hm Q x => h H hm.ex _ fun H2 e2 => by
  cases b with
  | true => exact h1 rfl H2 (hm.step e2) Q x
  | false => exact h2 rfl H2 (hm.step e2) Q x
theorem zi_draw {E : XK} {α : Int → Prop} (hσ : σ[i]? = some (some (.ref p))) (h : Zv M p q tu σ (isI α)) (ha : ∀ n, α n → 0 < n ∧ n ≤ 1000001) : Zv M p q (tCall spDraw [] E (tCons (tVar i) (tCons tu tNil))) σ (isI fun r => ∃ n, α n ∧ 0 ≤ r ∧ r < n) := fun H hm Q x =>
  ⟨.ref p, hσ, h H hm _ fun v H2 ⟨n, en, hn⟩ m2 => by
    subst en
    exact ⟨p, q, n, rfl, (ha n hn).1, (ha n hn).2, m2.dr, fun r H3 h0 h1 e3 d3 => x _ H3 ⟨r, rfl, n, hn, h0, h1⟩ (m2.next e3 d3)⟩⟩
theorem zv_pick {E : XK} (hσ : σ[i]? = some (some (.ref p))) (h : Yn K tl σ M ds) (hne : ds ≠ []) (hl : ds.length ≤ 1000) : Zv M p q (tCall (spPick K) [] E (tCons (tVar i) (tCons tl tNil))) σ (fun v => ∃ d H', d ∈ ds ∧ Dp K H' v d) := fun H hm Q x =>
  ⟨.ref p, hσ, h H hm.ex _ fun l xs H2 hl0 e2 h2 d2 => by
    obtain ⟨_, c, ns, h3, h4, _⟩ := hm.dr
    refine ⟨p, q, l, xs, rfl, hm.dr.ex e2, msk_l h2 (fun z => by rw [z, h3] at hl0; cases hl0) (fun z => by rw [z, h4] at hl0; cases hl0), fun z => ?_, by rw [dps_len d2]; exact hl, fun y H3 hy e3 d3 => ?_⟩
    · rw [z] at d2
      exact hne (List.length_eq_zero_iff.mp (dps_len d2).symm)
    · obtain ⟨j, hj⟩ := List.mem_iff_getElem?.mp hy
      obtain ⟨d, h5, h6⟩ := dps_at d2 hj
      exact x _ H3 ⟨d, H2, List.mem_of_getElem? h5, h6⟩ ((hm.step e2).next e3 d3)⟩
theorem zi_pick {E : XK} {ns : List Int} (hσ : σ[i]? = some (some (.ref p))) (h : Yn K tl σ M (ns.map .int)) (hne : ns ≠ []) (hl : ns.length ≤ 1000) : Zv M p q (tCall (spPick K) [] E (tCons (tVar i) (tCons tl tNil))) σ (isI fun r => r ∈ ns) :=
  zv_to (zv_pick hσ h (fun z => hne (List.map_eq_nil_iff.mp z)) (by rw [List.length_map]; exact hl)) fun v ⟨d, H', hd, hp⟩ => by
    obtain ⟨n, hn, rfl⟩ := List.mem_map.mp hd
    exact ⟨n, dp_int hp, hn⟩
theorem zs_pick {E : XK} {ns : List Str} (hσ : σ[i]? = some (some (.ref p))) (h : Yn K tl σ M (ns.map .str)) (hne : ns ≠ []) (hl : ns.length ≤ 1000) : Zv M p q (tCall (spPick K) [] E (tCons (tVar i) (tCons tl tNil))) σ (fun v => ∃ s, v = .str s ∧ s ∈ ns) :=
  zv_to (zv_pick hσ h (fun z => hne (List.map_eq_nil_iff.mp z)) (by rw [List.length_map]; exact hl)) fun v ⟨d, H', hd, hp⟩ => by
    obtain ⟨n, hn, rfl⟩ := List.mem_map.mp hd
    exact ⟨n, dp_str hp, hn⟩
theorem q_asg (hm : Md M p q H) (h : Zv M p q te σ φ) (k : ∀ v H2, φ v → Md M p q H2 → tz D (σ.set i (some v)) H2) : tSeq (tAsg te (gName i)) tz D σ H := h H hm _ k
theorem q_int {α : Int → Prop} (hm : Md M p q H) (h : Zv M p q te σ (isI α)) (k : ∀ n H2, α n → Md M p q H2 → tz D (σ.set i (some (.int n))) H2) : tSeq (tAsg te (gName i)) tz D σ H := h H hm _ fun v H2 ⟨n, e, hn⟩ m2 => by
  subst e
  exact k n H2 hn m2
theorem q_par (hm : Md M p q H) (h : Zv M p q te σ φ) (h' : Zv M p q tu σ ψ) (k : ∀ v w H2, φ v → ψ w → Md M p q H2 → tz D ((σ.set i (some v)).set j (some w)) H2) : tSeq (tPar i j (tCons te (tCons tu tNil))) tz D σ H :=
  h H hm _ fun v H2 hv m2 => h' H2 m2 _ fun w H3 hw m3 => ⟨v, w, rfl, k v w H3 hv hw m3⟩
end
end Wc
namespace Wc
open PySem PySem.Spec PyProof.Rows L2
/-! ### a list that grows -/
/-- the list at p holds ds -/
def Acc (K : Fg) (H : Hp) (p : Addr) (ds : List Dt) : Prop := ∃ xs, H p = some (.lst xs) ∧ DpAll K H xs ds
/-- all but p stays -/
def Exo (p : Addr) (H H' : Hp) : Prop := ∀ a o, a ≠ p → H a = some o → H' a = some o
section
variable {K : Fg} {σ : L2.St} {H H' H2 B : Hp} {te : TE} {d e : Dt} {ds : List Dt} {p q : Addr} {D : Ends} {tz : TS} {i : Nat}
theorem Acc.dp (h : Acc K H p ds) : Dp K H (.ref p) (.list ds) := by
  obtain ⟨xs, h1, h2⟩ := h
  exact .lst (SqL.of h1) h2
theorem Acc.ex (e : Ex H H') (h : Acc K H p ds) : Acc K H' p ds := by
  obtain ⟨xs, h1, h2⟩ := h
  exact ⟨xs, e _ _ h1, dps_ex e h2⟩
theorem Exo.trans (a : Exo p H H') (b : Exo p H' H2) : Exo p H H2 := fun x o n h => b x o n (a x o n h)
theorem Exo.of (a : Ex H H') : Exo p H H' := fun x o _ h => a x o h
theorem Exo.out (a : Exo p H H') (b : Ex B H) (h : B p = none) : Ex B H' := fun x o hx => a x o (fun z => by rw [z, h] at hx; cases hx) (b x o hx)
theorem tyv_l {xs : List V} (h : H p = some (.lst xs)) : tyV K "list" (.ref p) H := .inl ⟨rfl, xs, SqL.of h⟩
theorem exo_upd {o : HO} : Exo p H (upd H p o) := fun a u n h => by rw [upd_ne n]; exact h
theorem ap_te {l : TE} {Q : VK} (hx : σ[i]? = some (some (.ref p))) (ha : Acc K H p ds) (n : noLsts ds = true) (he : Yd K te σ H d) (nd : noLst d = true) (hl : ds.length < 100000)
    (k : ∀ H1, Exo p H H1 → Lx H H1 → Acc K H1 p (ds ++ [d]) → Q .non H1) : tBM K "list" rAppend (tVar i) (tCons te tNil) σ H Q := by
  obtain ⟨xs, h1, h2⟩ := ha
  refine ⟨.ref p, hx, tyv_l h1, he H ex_rfl _ fun v H1 e1 p1 => ?_⟩
  refine ⟨p, xs, v, rfl, rfl, e1 _ _ h1, Evl.sz_lt (by rw [dps_len h2]; exact hl), ?_⟩
  have lx : Lx H1 (upd H1 p (.lst (xs ++ [v]))) := Lx.upd (e1 _ _ h1)
  exact k _ ((Exo.of e1).trans exo_upd) ((Lx.of_ex e1).trans lx) ⟨_, upd_same, dps_app (dps_lx lx n (dps_ex e1 h2)) (.cons (dp_lx lx nd p1) .nil)⟩
theorem g_app (hx : σ[i]? = some (some (.ref p))) (ha : Acc K H p ds) (n : noLsts ds = true) (he : Yd K te σ H d) (nd : noLst d = true) (hl : ds.length < 100000)
    (k : ∀ H1, Exo p H H1 → Lx H H1 → Acc K H1 p (ds ++ [d]) → tz D σ H1) : tSeq (tDrop (tBM K "list" rAppend (tVar i) (tCons te tNil))) tz D σ H := ap_te (l := te) hx ha n he nd hl k
theorem z_app (hx : σ[i]? = some (some (.ref p))) (ha : Acc K H p ds) (n : noLsts ds = true) (he : Yd K te σ H d) (nd : noLst d = true) (hl : ds.length < 100000)
    (k : ∀ H1, Exo p H H1 → Lx H H1 → Acc K H1 p (ds ++ [d]) → D.nx σ H1) : tDrop (tBM K "list" rAppend (tVar i) (tCons te tNil)) D σ H := ap_te (l := te) hx ha n he nd hl k
theorem a_par3n {ta : TA} {j l : Nat} (h : Yn K te σ H ds) (h2 : Ya K ta σ H [d, e]) (k : ∀ p v w H1, H p = none → Ex H H1 → Acc K H1 p ds → Dp K H1 v d → Dp K H1 w e → tz D (((σ.set i (some (.ref p))).set j (some v)).set l (some w)) H1) : tSeq (tPar3 i j l (tCons te ta)) tz D σ H :=
  h H ex_rfl _ fun p xs H1 hp e1 h1 d1 => h2 H1 e1 _ fun vs H2 e2 p2 => by
    obtain ⟨v, r, rfl, q1, q2⟩ := dps_cons p2
    obtain ⟨w, r2, rfl, q3, q4⟩ := dps_cons q2
    obtain rfl := dps_nil q4
    exact ⟨_, v, w, rfl, k p v w H2 hp (e1.trans e2) (Acc.ex e2 ⟨xs, h1, d1⟩) q1 q3⟩
theorem a_acc (h : Yn K te σ H ds) (k : ∀ p H1, H p = none → Ex H H1 → Acc K H1 p ds → tz D (σ.set i (some (.ref p))) H1) : tSeq (tAsg te (gName i)) tz D σ H := h H ex_rfl _ fun p xs H1 hp e1 h1 d1 => k p H1 hp e1 ⟨xs, h1, d1⟩
theorem rd_eqB {a b : Bool} : Rd2 K (rEqD K) (.bool a) (.bool b) (.bool (decide (a = b))) := fun v u H Q p q k => rd_eqD shp_bl shp_bl v u H Q p q fun v' H2 e2 h => k v' H2 e2 (by
  have : PyData.eqv (.bool a) (.bool b) = decide (a = b) := by rw [PyData.eqv]; exact Bool.beq_eq_decide_eq a b
  rw [← this]; exact h)
theorem rd_neB {a b : Bool} : Rd2 K (rNeD K) (.bool a) (.bool b) (.bool (decide (a ≠ b))) := fun v u H Q p q k => rd_neD shp_bl shp_bl v u H Q p q fun v' H2 e2 h => k v' H2 e2 (by
  have : (!PyData.eqv (.bool a) (.bool b)) = decide (a ≠ b) := by rw [PyData.eqv, Bool.beq_eq_decide_eq]; exact decide_not.symm
  rw [← this]; exact h)
end
end Wc
namespace Wc
open PySem PySem.Spec PyProof.Rows L2
section
variable {K : Fg} {σ : L2.St} {H : Hp} {te : TE} {n : Nat} {f : Nat → Dt} {ds : List Dt}
theorem Src.cast {J : It} {m : Nat} {g : Nat → Dt} (h : Src K J H m g) (e : m = n) (k : ∀ i, i < n → g i = f i) : Src K J H n f := by
  subst e
  exact ⟨h.go, fun i H x H' hi eH y => by
    rw [← k i hi]
    exact h.yld i H x H' hi eH y, h.stop⟩
theorem Yi.cast {wi : TI} {m : Nat} {g : Nat → Dt} (h : Yi K wi σ H m g) (e : m = n) (k : ∀ i, i < n → g i = f i) : Yi K wi σ H n f := fun H1 x R q => h H1 x R fun J H2 e2 S => q J H2 e2 (S.cast e k)
theorem atD_range {i : Nat} (h : i < n) : atD ((List.range n).map f) i = f i := by
  have := atD_get (ds := (List.range n).map f) (i := i) (by rw [List.length_map, List.length_range]; exact h)
  rw [List.getElem?_map, List.getElem?_range h] at this
  exact (Option.some.inj this).symm
theorem yi_listR (h : Yd K te σ H (.list ((List.range n).map f))) : Yi K (iList K te) σ H n f := (yi_list h).cast (by rw [List.length_map, List.length_range]) fun i hi => atD_range hi
/-- how many are kept -/
theorem kept_count {n : Nat} {f : Nat → Bool} {g : Nat → Dt} : (kept n f g).length = (List.range n).countP f := by
  unfold kept
  rw [List.length_map, List.countP_eq_length_filter]
theorem count_mod (w : Nat) (h : 0 < w) : ∀ k, (List.range (k * w)).countP (fun i => decide (i % w = 0)) = k
  | 0 => by simp
  | k + 1 => by
    have ih := count_mod w h k
    have e : (k + 1) * w = k * w + w := Nat.succ_mul k w
    rw [e, List.range_add, List.countP_append, ih, List.countP_map]
    have : List.countP ((fun i => decide (i % w = 0)) ∘ fun x => k * w + x) (List.range w) = 1 := by
      obtain ⟨v, rfl⟩ : ∃ v, w = v + 1 := ⟨w - 1, by omega⟩
      rw [List.range_succ_eq_map, List.countP_cons, List.countP_map]
      have z : List.countP (((fun i => decide (i % (v + 1) = 0)) ∘ fun x => k * (v + 1) + x) ∘ Nat.succ) (List.range v) = 0 := by
        rw [List.countP_eq_zero]
        intro x hx
        have hx' := List.mem_range.mp hx
        simp only [Function.comp_apply, decide_eq_true_eq]
        rw [Nat.mul_add_mod_self_right, Nat.mod_eq_of_lt (by omega)]
        omega
      rw [z]
      simp
    rw [this]
end
end Wc
namespace Wc
open PySem PySem.Spec PyProof.Rows L2
theorem op_eqK {X : Cx} {K : Fg} (hu : X.A.units + 64 < cLine) (hK : X.K = K := by rfl) : OpR X (compareOp .Eq) (rEqD K) := by
  subst hK
  exact op_eqD hu
theorem op_neK {X : Cx} {K : Fg} (hu : X.A.units + 64 < cLine) (hK : X.K = K := by rfl) : OpR X (compareOp .NotEq) (rNeD K) := by
  subst hK
  exact op_neD hu
theorem pg_tupK {X : Cx} {K : Fg} {n : Nat} {es : List Expr} {k : Nat} {pos : Pos} {t : TGs} (hK : X.K = K) (hc : X.calm = true) (h : PGs X es t)
    (hn : (assignEach es X.env).length = n := by rfl) (hst : (assignEach es X.env).findIdx? (·.1) = none := by rfl) : PG X (.Tuple es k pos) (gTup K n t) := by
  subst hK
  exact pg_tup hc h hn hst
theorem ix_seqK {X : Cx} {K : Fg} (hK : X.K = K) : IxR X (rIx K) := by
  subst hK
  exact ix_seq
theorem op_inK {X : Cx} {K : Fg} (hK : X.K = K) : OpR X (compareOp .In) (rIn K false) := by
  subst hK
  exact op_in_seq
theorem op_niK {X : Cx} {K : Fg} (hK : X.K = K) : OpR X (compareOp .NotIn) (rIn K true) := by
  subst hK
  exact op_notIn_seq
theorem call_lenK {X : Cx} {K : Fg} (hK : X.K = K) : CallR X (.builtin "len") (fun xs H Q => ∃ x n, xs = [x] ∧ LenV K x H n ∧ Q (.int n) H) := by
  subst hK
  exact call_len
theorem call_isiK {X : Cx} {K : Fg} (hK : X.K = K) : CallR X (.builtin "isinstance") (rIsi K) := by
  subst hK
  exact call_isi
end Wc
namespace Wc
open PySem PySem.Spec PyProof.Rows L2
section
variable {K : Fg} {σ : L2.St} {H : Hp} {ta : TA} {te : TE} {tb tz : TS} {D : Ends} {j : Nat}
/-- for name in range(m), something behind -/
theorem f_rng1 {m : Int} (ha : Ya K ta σ H [.int m]) (hm : m ≤ 10000000 ∧ -10000000 ≤ m) (Pv : Nat → L2.St → Hp → Prop) (h0 : ∀ H1, Ex H H1 → Pv 0 σ H1)
    (hs : ∀ (i : Nat) σ' H', (i : Int) < m → Pv i σ' H' → tb { D with nx := Pv (i + 1), ct := Pv (i + 1), bk := tz D } (σ'.set j (some (.int (i : Int)))) H') (hd : ∀ σ' H', Pv m.toNat σ' H' → tz D σ' H') : tSeq (tFor (iRng1 ta) (gName j) tb) tz D σ H :=
  ha H ex_rfl _ fun vs H1 e1 p => by
    obtain ⟨v, r, rfl, h1, h2⟩ := dps_cons p
    obtain rfl := dps_nil h2
    obtain rfl := dp_int h1
    refine ⟨m, rfl, by omega, by omega, ?_⟩
    exact for_range (D := { D with nx := tz D }) Pv (h0 H1 e1) (fun i σ' H' hi pv => by
      have e : (0 : Int) + (i : Int) = i := Int.zero_add _
      rw [e]
      exact hs i σ' H' (by omega) pv) hd
/-- .. in range(l, m) -/
theorem f_rng2 {l m : Int} (ha : Ya K ta σ H [.int l, .int m]) (hl : l ≤ 10000000 ∧ -10000000 ≤ l) (hm : m ≤ 10000000 ∧ -10000000 ≤ m) (Pv : Nat → L2.St → Hp → Prop) (h0 : ∀ H1, Ex H H1 → Pv 0 σ H1)
    (hs : ∀ (i : Nat) σ' H', l + (i : Int) < m → Pv i σ' H' → tb { D with nx := Pv (i + 1), ct := Pv (i + 1), bk := tz D } (σ'.set j (some (.int (l + (i : Int))))) H') (hd : ∀ σ' H', Pv (m - l).toNat σ' H' → tz D σ' H') : tSeq (tFor (iRng2 ta) (gName j) tb) tz D σ H :=
  ha H ex_rfl _ fun vs H1 e1 p => by
    obtain ⟨v, r, rfl, h1, h2⟩ := dps_cons p
    obtain ⟨v', r', rfl, h3, h4⟩ := dps_cons h2
    obtain rfl := dps_nil h4
    obtain rfl := dp_int h1
    obtain rfl := dp_int h3
    refine ⟨l, m, rfl, by omega, ?_⟩
    exact for_range (D := { D with nx := tz D }) Pv (h0 H1 e1) (fun i σ' H' hi pv => hs i σ' H' (by omega) pv) hd
/-- for name in a list that stays -/
theorem f_lst {ds : List Dt} (h : Yd K te σ H (.list ds)) (Pv : Nat → L2.St → Hp → Prop) (h0 : ∀ H1, Ex H H1 → Pv 0 σ H1)
    (hk : ∀ a xs H1, Ex H H1 → SqL K H1 a xs → DpAll K H1 xs ds → ∀ i σ' H', i ≤ ds.length → Pv i σ' H' → SqL K H' a xs ∧ DpAll K H' xs ds)
    (hs : ∀ i d x σ' H', ds[i]? = some d → Dp K H' x d → Pv i σ' H' → tb { D with nx := Pv (i + 1), ct := Pv (i + 1), bk := tz D } (σ'.set j (some x)) H') (hd : ∀ σ' H', Pv ds.length σ' H' → tz D σ' H') : tSeq (tFor (iList K te) (gName j) tb) tz D σ H :=
  h H ex_rfl _ fun v H1 e1 p => by
    obtain ⟨a, xs, rfl, h1, h2⟩ := dp_lst p
    have hl := dps_len h2
    refine ⟨a, rfl, ⟨xs, h1⟩, ?_⟩
    refine for_list (D := { D with nx := tz D }) Pv (h0 H1 e1) (fun i σ' H' hi pv => (hk a xs H1 e1 h1 h2 i σ' H' (by omega) pv).1) (fun i x σ' H' hx pv => ?_) (by rw [hl]; exact hd)
    have hi : i < xs.length := (List.getElem?_eq_some_iff.mp hx).1
    obtain ⟨d, q1, q2⟩ := dps_at (hk a xs H1 e1 h1 h2 i σ' H' (by omega) pv).2 hx
    exact hs i d x σ' H' q1 q2 pv
end
end Wc

/-! For the head. -/
namespace Wc
open PySem PySem.Spec PyProof.Rows L2
section
variable {P : Program} {w : World} {K : Fg} {mg : Str → Option Value} {base : Heap}
/-- the def with its function object told -/
structure DfA (K : Fg) (mg : Str → Option Value) (x : Str) (st : Stmt) (f : Addr) (fd : FuncData) : Prop where
  F : FunD K x x (defArgs st) (defBody st) (defScope st) [] [] f fd
theorem DfA.cal {x : Str} {st : Stmt} {N ps : List Str} {k : Nat} {sp : Sp} {f0 : Addr} {fd0 : FuncData} (F : DfA K mg x st f0 fd0) (S : FnScope N ps (defScope st))
    (hbi : ∀ (kV doc pm : Value) (an : Option Addr) (cdv ct : Value) (us : List Value), us.length = ps.length → bindArgs (PySem.W.fnOf x x (defArgs st) (defBody st) (defScope st) .none kV doc pm an cdv ct) ⟨us, []⟩ = pure (ps.zip us))
    (len : ∀ vs H Q E, sp vs H Q E → vs.length = ps.length)
    (hbody : ∀ (f : Addr) (cdv : Value) (A : Around) (outer : List Env) (s : Shared) (H : Hp) (vs : List V) (Q : VK) (E : XK), Room k (A.deeper (envOfC x (defScope st) s.heap.objs.size f cdv)) → sp vs H Q E →
      ∃ t, PSs (cxOf (L2.CX P w) P w K mg base N x (defScope st) f cdv A outer s H E) (defBody st) t ∧ t { nx := fun _ H' => Q .non H', rt := Q } (start N vs) H) : FnOk P w K mg base (L2.CX P w) (k + 1) f0 fd0 ps sp :=
  F.F.ok S len fun cdv A outer s H vs Q E hr h => hbody f0 cdv A outer s H vs Q E hr h
theorem fnok_any {k : Nat} {f : Addr} {fd : FuncData} {ps : List Str} {sp : Sp} (F : FnOk P w K mg base (L2.CX P w) k f fd ps sp) : FnOk P w K mg base (fun o H s E u s' => ∃ P w, L2.CX P w o H s E u s') k f fd ps sp :=
  ⟨F.len, fun A outer s H args us vs Q E hr he hb hv hs => PySem.codeAny_mono (F.run A outer s H args us vs Q E hr he hb hv hs) fun r s' h => by
    match r, h with
    | .ok (.ret u), h => exact h
    | .error e, h => exact ⟨P, w, h⟩⟩
end
end Wc

namespace Wc
open PySem PySem.Spec PyProof.Rows L2
def topS (i : Nat) : Stmt := PySem.Challenge.pw_wheelcurves_k15_whole_directions.main.body.getD i (.Pass ⟨0, 0, 0, 0⟩)

/-! ### gears, plainly -/
abbrev sIn : Str := PySem.Str.ofString "in"
abbrev sOut : Str := PySem.Str.ofString "out"
abbrev gear (N w : Int) (s : Str) : Dt := .tuple [.int N, .int w, .str s]
structure Gok (N w : Int) (s : Str) : Prop where
  n3 : 3 ≤ N
  n150 : N ≤ 150
  w2 : 2 ≤ w
  w150 : w ≤ 150
  side : (s = sIn ∧ w < N) ∨ s = sOut
def isIntD (d : Dt) (lo hi : Int) : Bool := match d with
  | .int i => decide (lo ≤ i) && decide (i ≤ hi)
  | _ => false
theorem isIntD_iff {d : Dt} {lo hi : Int} : isIntD d lo hi = true ↔ ∃ i, d = .int i ∧ lo ≤ i ∧ i ≤ hi := by
  constructor
  · intro h
    cases d with
    | int i =>
      have h' : (decide (lo ≤ i) && decide (i ≤ hi)) = true := h
      rw [Bool.and_eq_true, decide_eq_true_eq, decide_eq_true_eq] at h'
      exact ⟨i, rfl, h'.1, h'.2⟩
    | _ => cases h
  · rintro ⟨i, rfl, h1, h2⟩
    show (decide (lo ≤ i) && decide (i ≤ hi)) = true
    rw [decide_eq_true h1, decide_eq_true h2] <;> rfl
def isGearD (d : Dt) : Bool := match d with
  | .tuple [a, b, .str s] => isIntD a 3 150 && (isIntD b 2 150 && (decide (s ∈ [sIn, sOut]) && (decide (s = sOut) || (match a, b with
    | .int N, .int w => decide (w < N)
    | _, _ => false))))
  | _ => false
theorem isGearD_iff {d : Dt} : isGearD d = true ↔ ∃ N w s, d = gear N w s ∧ Gok N w s := by
  constructor
  · intro h
    unfold isGearD at h
    split at h
    · rename_i a b s
      simp only [Bool.and_eq_true, Bool.or_eq_true, decide_eq_true_eq, isIntD_iff] at h
      obtain ⟨⟨N, rfl, h1, h2⟩, ⟨w, rfl, h3, h4⟩, h5, h6⟩ := h
      refine ⟨N, w, s, rfl, h1, h2, h3, h4, ?_⟩
      rcases h6 with h6 | h6
      · exact .inr h6
      · have h6' : w < N := of_decide_eq_true h6
        rcases List.mem_cons.mp h5 with e | e
        · exact .inl ⟨e, h6'⟩
        · exact .inr (List.mem_singleton.mp e)
    · cases h
  · rintro ⟨N, w, s, rfl, h⟩
    have h1 : isIntD (.int N) 3 150 = true := isIntD_iff.mpr ⟨N, rfl, h.n3, h.n150⟩
    have h2 : isIntD (.int w) 2 150 = true := isIntD_iff.mpr ⟨w, rfl, h.w2, h.w150⟩
    show (isIntD (.int N) 3 150 && (isIntD (.int w) 2 150 && (decide (s ∈ [sIn, sOut]) && (decide (s = sOut) || decide (w < N))))) = true
    rw [h1, h2]
    rcases h.side with ⟨rfl, h3⟩ | rfl
    · rw [decide_eq_true h3] <;> simp
    · simp
/-- the first argument a gear, else BadGear -/
def Gf (k : Int → Int → Str → Res → Prop) (d : Dt) (r : Res) : Prop := (isGearD d = false ∧ r = .exc "BadGear") ∨ ∃ N w s, d = gear N w s ∧ Gok N w s ∧ k N w s r
/-- a number within bounds, else x -/
def Nf (x : Str) (lo hi : Int) (k : Int → Res → Prop) (d : Dt) (r : Res) : Prop := (isIntD d lo hi = false ∧ r = .exc x) ∨ ∃ i, d = .int i ∧ lo ≤ i ∧ i ≤ hi ∧ k i r
theorem Gf.ok {k : Int → Int → Str → Res → Prop} {N w : Int} {s : Str} {r : Res} (g : Gok N w s) (h : k N w s r) : Gf k (gear N w s) r := .inr ⟨N, w, s, rfl, g, h⟩
theorem Nf.ok {x : Str} {lo hi : Int} {k : Int → Res → Prop} {i : Int} {r : Res} (h1 : lo ≤ i) (h2 : i ≤ hi) (h : k i r) : Nf x lo hi k (.int i) r := .inr ⟨i, rfl, h1, h2, h⟩
theorem Gf.bad {k : Int → Int → Str → Res → Prop} {d : Dt} (h : isGearD d = false) : Gf k d (.exc "BadGear") := .inl ⟨h, rfl⟩
theorem Nf.bad {x : Str} {lo hi : Int} {k : Int → Res → Prop} {d : Dt} (h : isIntD d lo hi = false) : Nf x lo hi k d (.exc x) := .inl ⟨h, rfl⟩

/-! ### the tactics -/
local macro_rules | `(tactic| walk_at "dp") => `(tactic| first
  | assumption | with_reducible exact .int _ | with_reducible exact .str _ | with_reducible exact .bl _ | with_reducible exact .non
  | ((with_reducible apply dp_ex); assumption; walk_at "dp"))
local macro_rules | `(tactic| walk_at "om") => `(tactic| first | assumption | decide | omega)
local macro_rules | `(tactic| walk_at "f") => `(tactic| assumption)
local macro_rules | `(tactic| walk_at "sz") => `(tactic| first | decide | (simp only [List.length_cons, List.length_nil]; omega))
local macro_rules | `(tactic| walk_at "y") => `(tactic| first
  | with_reducible exact yd_int | with_reducible exact yd_str | with_reducible exact yd_bl | with_reducible exact yd_non | with_reducible exact ya_nil | with_reducible exact yt_yes
  | ((with_reducible apply yd_var); exact rfl; walk_at "dp")
  | ((with_reducible apply ya_cons) <;> walk_at "y")
  | ((with_reducible apply yd_op) <;> walk_at "y")
  | ((with_reducible apply yd_un) <;> walk_at "y")
  | with_reducible exact rd_add | with_reducible exact rd_sub | with_reducible exact rd_lt | with_reducible exact rd_le | with_reducible exact rd_gt | with_reducible exact rd_ge
  | with_reducible exact rd_eqI | with_reducible exact rd_neI | with_reducible exact rd_isN | with_reducible exact rd_notN | with_reducible exact rd_isB | with_reducible exact rd_notB | with_reducible exact rd_neg
  | with_reducible exact rd_t0 | with_reducible exact rd_t1 | with_reducible exact rd_t2 | with_reducible exact rd_l0
  | ((with_reducible apply rd_mod); walk_at "om") | ((with_reducible apply rd_fdiv); walk_at "om")
  | ((with_reducible apply rd_mulR); walk_at "om") | ((with_reducible apply rd_mulL); walk_at "om") | ((with_reducible apply rd_pow); walk_at "om")
  | ((with_reducible apply yd_call); walk_at "y"; walk_at "f")
  | ((with_reducible apply yn_call); walk_at "y"; walk_at "f")
  | ((with_reducible apply ydn_call); walk_at "y"; walk_at "f")
  | ((with_reducible apply yd_isiT); walk_at "y"; simp)
  | ((with_reducible apply yd_tup); walk_at "y"; walk_at "sz")
  | ((with_reducible apply yn_lst); walk_at "y"; walk_at "sz")
  | ((with_reducible apply yd_cb); walk_at "y"; first | exact rd_lenL | exact rd_lenT | exact rd_min2 | exact rd_max2 | exact rd_abs)
  | ((with_reducible apply yt_test) <;> walk_at "y")
  | ((with_reducible apply yt_B) <;> walk_at "y"))

/-! ### wheelcurves/errors.py -/
abbrev st_is_int : Stmt := topS 6
abbrev N_is_int : List Str := ["value", "low", "high"]
theorem sc_is_int : FnScope N_is_int ["value", "low", "high"] (defScope st_is_int) := ⟨rfl, rfl, rfl, by decide +kernel, rfl, by decide +kernel, by decide +kernel⟩
abbrev st_is_gear : Stmt := topS 8
abbrev N_is_gear : List Str := ["value"]
theorem sc_is_gear : FnScope N_is_gear ["value"] (defScope st_is_gear) := ⟨rfl, rfl, rfl, by decide +kernel, rfl, by decide +kernel, by decide +kernel⟩
abbrev st_check_gear : Stmt := topS 9
abbrev N_check_gear : List Str := ["value"]
theorem sc_check_gear : FnScope N_check_gear ["value"] (defScope st_check_gear) := ⟨rfl, rfl, rfl, by decide +kernel, rfl, by decide +kernel, by decide +kernel⟩
abbrev st_check_tooth : Stmt := topS 10
abbrev N_check_tooth : List Str := ["gear", "value"]
theorem sc_check_tooth : FnScope N_check_tooth ["gear", "value"] (defScope st_check_tooth) := ⟨rfl, rfl, rfl, by decide +kernel, rfl, by decide +kernel, by decide +kernel⟩
def F_is_int (ds : List Dt) (r : Res) : Prop := ∃ d lo hi, ds = [d, .int lo, .int hi] ∧ r = .val (.bool (isIntD d lo hi))
theorem len_is_int : ∀ ds r, F_is_int ds r → ds.length = 3 := fun _ _ ⟨_, _, _, e, _⟩ => e ▸ rfl
theorem f_is_int {d : Dt} {lo hi : Int} : F_is_int [d, .int lo, .int hi] (.val (.bool (isIntD d lo hi))) := ⟨d, lo, hi, rfl, rfl⟩
local macro_rules | `(tactic| walk_at "f") => `(tactic| with_reducible exact f_is_int)
def F_is_gear (ds : List Dt) (r : Res) : Prop := ∃ d, ds = [d] ∧ r = .val (.bool (isGearD d))
theorem len_is_gear : ∀ ds r, F_is_gear ds r → ds.length = 1 := fun _ _ ⟨_, e, _⟩ => e ▸ rfl
theorem f_is_gear {d : Dt} : F_is_gear [d] (.val (.bool (isGearD d))) := ⟨d, rfl, rfl⟩
local macro_rules | `(tactic| walk_at "f") => `(tactic| with_reducible exact f_is_gear)
def F_check_gear (ds : List Dt) (r : Res) : Prop := ∃ d, ds = [d] ∧ ((isGearD d = true ∧ r = .val .none) ∨ (isGearD d = false ∧ r = .exc "BadGear"))
theorem len_check_gear : ∀ ds r, F_check_gear ds r → ds.length = 1 := fun _ _ ⟨_, e, _⟩ => e ▸ rfl
section
variable {P : Program} {w : World} {K : Fg} {mg : Str → Option Value} {base : Heap}
theorem ok_is_int (Z : Df K mg "is_int" st_is_int) (m_isinstance : mg "isinstance" = none) (m_int : mg "int" = none) (m_bool : mg "bool" = none) : Cal P w K mg base "is_int" ["value", "low", "high"] 1 (spF K F_is_int) := by
  refine Z.calF sc_is_int (fun _ _ _ _ _ _ us hl => match us, hl with | [_, _, _], _ => rfl) len_is_int (fun f cdv A outer s H vs Q E ds r hr hd hf hk => ?_)
  refine ⟨_, (pss_one (ps_ret (pe_and (pe_callB call_isi rfl m_isinstance (by decide +kernel) (pa_cons (pv 0) (pa_cons (pe_bltn (v := .ty "int") rfl m_int (by decide +kernel) rfl) pa_nil))) (pe_and (pe_not (pe_callB call_isi rfl m_isinstance (by decide +kernel) (pa_cons (pv 0) (pa_cons (pe_bltn (v := .ty "bool") rfl m_bool (by decide +kernel) rfl) pa_nil)))) (pe_one (pe_chain op_le op_le (pv 1) (pv 0) (pv 2))))))), ?_⟩
  try dsimp only [cxOf]
  obtain ⟨d, lo, hi, rfl, rfl⟩ := hf
  obtain ⟨v0, r0, rfl, h0, hd⟩ := dps_cons hd
  obtain ⟨v1, r1, rfl, h1, hd⟩ := dps_cons hd
  obtain ⟨v2, r2, rfl, h2, hd⟩ := dps_cons hd
  obtain rfl := dps_nil hd
  refine r_go (Yd.is (yd_andV (b := !isT "bool" d && isIntD d lo hi) (yd_isiT (by walk_at "y") (by simp)) fun q1 => yd_andV (b := isIntD d lo hi) (yd_notV (yd_isiT (by walk_at "y") (by simp))) fun q2 => ?_) ?_) hk
  · obtain ⟨i, rfl⟩ : ∃ i, d = .int i := by
      cases d with
      | int i => exact ⟨i, rfl⟩
      | bool b => exact absurd q2 (by simp [isT])
      | _ => exact absurd q1 (by simp [isT])
    exact yd_chain (by walk_at "y") (by walk_at "y") rd_le (fun _ => by walk_at "y") fun _ => rd_le
  · cases d <;> rfl
theorem ok_is_gear (Z : Df K mg "is_gear" st_is_gear) (c_is_int : Cal P w K mg base "is_int" ["value", "low", "high"] 1 (spF K F_is_int)) (m_isinstance : mg "isinstance" = none) (m_tuple : mg "tuple" = none) (m_len : mg "len" = none) (m_str : mg "str" = none) : Cal P w K mg base "is_gear" ["value"] 2 (spF K F_is_gear) := by
  refine Z.calF sc_is_gear (fun _ _ _ _ _ _ us hl => match us, hl with | [_], _ => rfl) len_is_gear (fun f cdv A outer s H vs Q E ds r hr hd hf hk => ?_)
  refine ⟨_, (pss_cons (ps_if (PW.pt (pw_or (pt_not (pt_val (pe_callB call_isi rfl m_isinstance (by decide +kernel) (pa_cons (pv 0) (pa_cons (pe_bltn (v := .ty "tuple") rfl m_tuple (by decide +kernel) rfl) pa_nil))))) (pw_or1 (pt_cmpR (op_neD hr.units) (pe_callB call_len rfl m_len (by decide +kernel) (pa_cons (pv 0) pa_nil)) pe_int (nomark _))))) (pss_one (ps_ret pe_bl)) pss_nil)
    (pss_cons (ps_if (PW.pt (pw_or (pt_not (pt_val (pe_cal c_is_int (hr.mono (by decide)) px (pa_cons (pe_ix ix_seq (pv 0) pe_int (fun _ _ => rfl)) (pa_cons pe_int (pa_cons pe_int pa_nil)))))) (pw_or1 (pt_not (pt_val (pe_cal c_is_int (hr.mono (by decide)) px (pa_cons (pe_ix ix_seq (pv 0) pe_int (fun _ _ => rfl)) (pa_cons pe_int (pa_cons pe_int pa_nil))))))))) (pss_one (ps_ret pe_bl)) pss_nil)
    (pss_cons (ps_if (PW.pt (pw_or (pt_not (pt_val (pe_callB call_isi rfl m_isinstance (by decide +kernel) (pa_cons (pe_ix ix_seq (pv 0) pe_int (fun _ _ => rfl)) (pa_cons (pe_bltn (v := .ty "str") rfl m_str (by decide +kernel) rfl) pa_nil))))) (pw_or1 (pt_cmpR op_notIn_seq (pe_ix ix_seq (pv 0) pe_int (fun _ _ => rfl)) (pe_tup (pa_cons pe_str (pa_cons pe_str pa_nil))) rfl)))) (pss_one (ps_ret pe_bl)) pss_nil)
    (pss_one (ps_ret (pe_or (pe_cmpR (op_eqD hr.units) (pe_ix ix_seq (pv 0) pe_int (fun _ _ => rfl)) pe_str (nomark _)) (pe_one (pe_cmpR op_lt (pe_ix ix_seq (pv 0) pe_int (fun _ _ => rfl)) (pe_ix ix_seq (pv 0) pe_int (fun _ _ => rfl)) (nomark _))))))))), ?_⟩
  try dsimp only [cxOf]
  obtain ⟨d, rfl, rfl⟩ := hf
  obtain ⟨v0, r0, rfl, h0, hd⟩ := dps_cons hd
  obtain rfl := dps_nil hd
  have bad : ∀ {Hx : Hp} {D : Ends}, Ex H Hx → isGearD d = false → D.rt = Q → tRet (tC (.bl false)) D (start N_is_gear [v0]) Hx := fun e z q => r_val yd_bl fun v H1 e1 p => by
    rw [q]
    exact hk v H1 (e.trans e1) (z ▸ p)
  by_cases ht : ∃ a b c, d = .tuple [a, b, c]
  case neg =>
    refine i_yes ?_ fun H1 e1 => bad e1 ?_ rfl
    · by_cases h2 : ∃ ds, d = .tuple ds
      · obtain ⟨ds, rfl⟩ := h2
        refine yt_is (yt_or (yt_not (yt_B (yd_isiT (by walk_at "y") (by simp)))) fun _ => yt_test (yd_op (yd_cb (by walk_at "y") rd_lenT) yd_int rd_neI)) ?_
        have hl : ds.length ≠ 3 := fun z => ht (by
          match ds, z with
          | [a, b, c], _ => exact ⟨a, b, c, rfl⟩)
        have hl' : (ds.length : Int) ≠ 3 := by omega
        rw [decide_eq_true hl'] <;> rfl
      · refine yt_or1 (yt_is (yt_not (yt_B (yd_isiT (by walk_at "y") (by simp)))) ?_)
        cases d with
        | tuple ds => exact absurd ⟨ds, rfl⟩ h2
        | _ => rfl
    · cases q : isGearD d with
      | false => rfl
      | true =>
        obtain ⟨N, w', s', e, _⟩ := isGearD_iff.mp q
        exact absurd ⟨_, _, _, e⟩ ht
  case pos =>
    obtain ⟨a, b, c, rfl⟩ := ht
    refine i_no (yt_is (yt_or (yt_not (yt_B (by walk_at "y"))) fun _ => yt_test (by walk_at "y")) (by simp [isT])) fun H1 e1 => ?_
    by_cases hab : isIntD a 3 150 = true ∧ isIntD b 2 150 = true
    case neg =>
      refine i_yes (yt_is (yt_or (yt_not (yt_B (by walk_at "y"))) fun _ => yt_not (yt_B (by walk_at "y"))) ?_) fun H2 e2 => bad (e1.trans e2) ?_ rfl
      · cases q1 : isIntD a 3 150 <;> cases q2 : isIntD b 2 150 <;> first | rfl | exact absurd ⟨q1, q2⟩ hab
      · cases q : isGearD (.tuple [a, b, c]) with
        | false => rfl
        | true =>
          obtain ⟨N, w', s', e, g⟩ := isGearD_iff.mp q
          cases e
          exact absurd ⟨isIntD_iff.mpr ⟨N, rfl, g.n3, g.n150⟩, isIntD_iff.mpr ⟨w', rfl, g.w2, g.w150⟩⟩ hab
    case pos =>
      obtain ⟨ha, hb⟩ := hab
      refine i_no (yt_or0 (yt_is (yt_not (yt_B (by walk_at "y"))) (by rw [ha] <;> rfl)) (yt_is (yt_not (yt_B (by walk_at "y"))) (by rw [hb] <;> rfl))) fun H2 e2 => ?_
      by_cases hs : ∃ s, c = .str s ∧ s ∈ [sIn, sOut]
      case neg =>
        refine i_yes (yt_is (yt_or (b := true) (yt_not (yt_B (yd_isiT (by walk_at "y") (by simp)))) fun q => ?_) ?_) fun H3 e3 => bad ((e1.trans e2).trans e3) ?_ rfl
        · cases c with
          | str s =>
            refine yt_is (yt_test (yd_op (by walk_at "y") (yd_tup (by walk_at "y") (by simp)) (rd_niT (ys := [sIn, sOut]) (by rfl)))) ?_
            rw [decide_eq_false fun z => hs ⟨s, rfl, z⟩] <;> rfl
          | _ => exact absurd q (by simp [isT])
        · cases c <;> rfl
        · cases q : isGearD (.tuple [a, b, c]) with
          | false => rfl
          | true =>
            obtain ⟨N, w', s', e, g⟩ := isGearD_iff.mp q
            cases e
            refine absurd ⟨s', rfl, ?_⟩ hs
            rcases g.side with ⟨rfl, _⟩ | rfl <;> simp
      case pos =>
        obtain ⟨s, rfl, hs⟩ := hs
        obtain ⟨N, rfl, n1, n2⟩ := isIntD_iff.mp ha
        obtain ⟨w', rfl, w1, w2⟩ := isIntD_iff.mp hb
        refine i_no (yt_is (yt_or (yt_not (yt_B (by walk_at "y"))) fun _ => yt_test (yd_op (by walk_at "y") (by walk_at "y") (rd_niT (ys := [sIn, sOut]) (by rfl)))) ?_) fun H3 e3 => ?_
        · rw [decide_eq_true hs] <;> rfl
        · have okS : PyData.strOk s = true := by
            rcases List.mem_cons.mp hs with rfl | z
            · decide +kernel
            · rw [List.mem_singleton.mp z]; decide +kernel
          refine r_go (Yd.is (yd_orV (yd_op (by walk_at "y") yd_str (rd_eqS okS (by decide +kernel))) fun _ => by walk_at "y") ?_) (Res.mono ((e1.trans e2).trans e3) hk)
          show PyData.bool _ = PyData.bool (isIntD (.int N) 3 150 && (isIntD (.int w') 2 150 && (decide (s ∈ [sIn, sOut]) && (decide (s = sOut) || decide (w' < N)))))
          rw [ha, hb, decide_eq_true hs] <;> rfl
theorem ok_check_gear (Z : Df K mg "check_gear" st_check_gear) (c_is_gear : Cal P w K mg base "is_gear" ["value"] 2 (spF K F_is_gear)) (e_BadGear : ExF K mg "BadGear") : Cal P w K mg base "check_gear" ["value"] 3 (spF K F_check_gear) := by
  refine Z.calF sc_check_gear (fun _ _ _ _ _ _ us hl => match us, hl with | [_], _ => rfl) len_check_gear (fun f cdv A outer s H vs Q E ds r hr hd hf hk => ?_)
  refine ⟨_, (pss_one (ps_if (pt_not (pt_val (pe_cal c_is_gear (hr.mono (by decide)) px (pa_cons (pv 0) pa_nil)))) (pss_one (ps_rz e_BadGear)) pss_nil)), ?_⟩
  try dsimp only [cxOf]
  obtain ⟨d, rfl, hf⟩ := hf
  obtain ⟨v0, r0, rfl, h0, hd⟩ := dps_cons hd
  obtain rfl := dps_nil hd
  rcases hf with ⟨q, rfl⟩ | ⟨q, rfl⟩
  · refine j_no (yt_is (yt_not (yt_B (by walk_at "y"))) (by rw [q] <;> rfl)) fun H1 e1 => ?_
    exact hk .non H1 e1 .non
  · refine j_yes (yt_is (yt_not (yt_B (by walk_at "y"))) (by rw [q] <;> rfl)) fun H1 e1 => ?_
    exact hk H1 e1
end

/-! ### the checks as statements -/
def F_check_tooth (ds : List Dt) (r : Res) : Prop := ∃ N w s d, ds = [gear N w s, d] ∧ Gok N w s ∧ ((isIntD d 0 (N - 1) = true ∧ r = .val .none) ∨ (isIntD d 0 (N - 1) = false ∧ r = .exc "BadTooth"))
def F_check_wheel_tooth (ds : List Dt) (r : Res) : Prop := ∃ N w s d, ds = [gear N w s, d] ∧ Gok N w s ∧ ((isIntD d 0 (w - 1) = true ∧ r = .val .none) ∨ (isIntD d 0 (w - 1) = false ∧ r = .exc "BadTooth"))
def F_check_step (ds : List Dt) (r : Res) : Prop := ∃ d, ds = [d] ∧ ((isIntD d 0 1000000 = true ∧ r = .val .none) ∨ (isIntD d 0 1000000 = false ∧ r = .exc "BadNumber"))
def F_check_arcs (ds : List Dt) (r : Res) : Prop := ∃ d, ds = [d] ∧ ((isIntD d 0 150 = true ∧ r = .val .none) ∨ (isIntD d 0 150 = false ∧ r = .exc "BadNumber"))
theorem len_check_tooth : ∀ ds r, F_check_tooth ds r → ds.length = 2 := fun _ _ ⟨_, _, _, _, e, _⟩ => e ▸ rfl
theorem len_check_wheel_tooth : ∀ ds r, F_check_wheel_tooth ds r → ds.length = 2 := fun _ _ ⟨_, _, _, _, e, _⟩ => e ▸ rfl
theorem len_check_step : ∀ ds r, F_check_step ds r → ds.length = 1 := fun _ _ ⟨_, e, _⟩ => e ▸ rfl
theorem len_check_arcs : ∀ ds r, F_check_arcs ds r → ds.length = 1 := fun _ _ ⟨_, e, _⟩ => e ▸ rfl
section
variable {K : Fg} {σ : L2.St} {H : Hp} {E : XK} {D : Ends} {tz : TS} {v : V} {d : Dt} {r : Res} {i j : Nat} {Q : VK}
theorem st_gear {k : Int → Int → Str → Res → Prop} (h : Gf k d r) (hk : r.go K H Q E) (hv : Dp K H v d) (hi : σ[i]? = some (some v)) (next : ∀ N w s, d = gear N w s → Gok N w s → k N w s r → ∀ H1, Ex H H1 → tz D σ H1) :
    tSeq (tDrop (tCall (spF K F_check_gear) [] E (tCons (tVar i) tNil))) tz D σ H := by
  rcases h with ⟨h, rfl⟩ | ⟨N, w, s, rfl, g, h⟩
  · exact c_bad (ya_cons (yd_var hi hv) ya_nil) ⟨d, rfl, .inr ⟨h, rfl⟩⟩ fun H1 e => hk H1 e
  · exact c_ok (ya_cons (yd_var hi hv) ya_nil) ⟨_, rfl, .inl ⟨isGearD_iff.mpr ⟨N, w, s, rfl, g⟩, rfl⟩⟩ fun H1 e => next N w s rfl g h H1 e
theorem st_tooth {N w : Int} {s : Str} {k : Int → Res → Prop} (g : Gok N w s) (h : Nf "BadTooth" 0 (N - 1) k d r) (hk : r.go K H Q E) {u : V} (hu : Dp K H u (gear N w s)) (hi : σ[i]? = some (some u)) (hv : Dp K H v d) (hj : σ[j]? = some (some v))
    (next : ∀ a, d = .int a → 0 ≤ a → a < N → k a r → ∀ H1, Ex H H1 → tz D σ H1) : tSeq (tDrop (tCall (spF K F_check_tooth) [] E (tCons (tVar i) (tCons (tVar j) tNil)))) tz D σ H := by
  rcases h with ⟨h, rfl⟩ | ⟨a, rfl, h1, h2, h⟩
  · exact c_bad (ya_cons (yd_var hi hu) (ya_cons (yd_var hj hv) ya_nil)) ⟨N, w, s, d, rfl, g, .inr ⟨h, rfl⟩⟩ fun H1 e => hk H1 e
  · exact c_ok (ya_cons (yd_var hi hu) (ya_cons (yd_var hj hv) ya_nil)) ⟨N, w, s, _, rfl, g, .inl ⟨isIntD_iff.mpr ⟨a, rfl, h1, h2⟩, rfl⟩⟩ fun H1 e => next a rfl h1 (by omega) h H1 e
theorem st_wtooth {N w : Int} {s : Str} {k : Int → Res → Prop} (g : Gok N w s) (h : Nf "BadTooth" 0 (w - 1) k d r) (hk : r.go K H Q E) {u : V} (hu : Dp K H u (gear N w s)) (hi : σ[i]? = some (some u)) (hv : Dp K H v d) (hj : σ[j]? = some (some v))
    (next : ∀ a, d = .int a → 0 ≤ a → a < w → k a r → ∀ H1, Ex H H1 → tz D σ H1) : tSeq (tDrop (tCall (spF K F_check_wheel_tooth) [] E (tCons (tVar i) (tCons (tVar j) tNil)))) tz D σ H := by
  rcases h with ⟨h, rfl⟩ | ⟨a, rfl, h1, h2, h⟩
  · exact c_bad (ya_cons (yd_var hi hu) (ya_cons (yd_var hj hv) ya_nil)) ⟨N, w, s, d, rfl, g, .inr ⟨h, rfl⟩⟩ fun H1 e => hk H1 e
  · exact c_ok (ya_cons (yd_var hi hu) (ya_cons (yd_var hj hv) ya_nil)) ⟨N, w, s, _, rfl, g, .inl ⟨isIntD_iff.mpr ⟨a, rfl, h1, h2⟩, rfl⟩⟩ fun H1 e => next a rfl h1 (by omega) h H1 e
theorem st_step {k : Int → Res → Prop} (h : Nf "BadNumber" 0 1000000 k d r) (hk : r.go K H Q E) (hv : Dp K H v d) (hi : σ[i]? = some (some v)) (next : ∀ a, d = .int a → 0 ≤ a → a ≤ 1000000 → k a r → ∀ H1, Ex H H1 → tz D σ H1) :
    tSeq (tDrop (tCall (spF K F_check_step) [] E (tCons (tVar i) tNil))) tz D σ H := by
  rcases h with ⟨h, rfl⟩ | ⟨a, rfl, h1, h2, h⟩
  · exact c_bad (ya_cons (yd_var hi hv) ya_nil) ⟨d, rfl, .inr ⟨h, rfl⟩⟩ fun H1 e => hk H1 e
  · exact c_ok (ya_cons (yd_var hi hv) ya_nil) ⟨_, rfl, .inl ⟨isIntD_iff.mpr ⟨a, rfl, h1, h2⟩, rfl⟩⟩ fun H1 e => next a rfl h1 h2 h H1 e
theorem st_arcs {k : Int → Res → Prop} (h : Nf "BadNumber" 0 150 k d r) (hk : r.go K H Q E) (hv : Dp K H v d) (hi : σ[i]? = some (some v)) (next : ∀ a, d = .int a → 0 ≤ a → a ≤ 150 → k a r → ∀ H1, Ex H H1 → tz D σ H1) :
    tSeq (tDrop (tCall (spF K F_check_arcs) [] E (tCons (tVar i) tNil))) tz D σ H := by
  rcases h with ⟨h, rfl⟩ | ⟨a, rfl, h1, h2, h⟩
  · exact c_bad (ya_cons (yd_var hi hv) ya_nil) ⟨d, rfl, .inr ⟨h, rfl⟩⟩ fun H1 e => hk H1 e
  · exact c_ok (ya_cons (yd_var hi hv) ya_nil) ⟨_, rfl, .inl ⟨isIntD_iff.mpr ⟨a, rfl, h1, h2⟩, rfl⟩⟩ fun H1 e => next a rfl h1 h2 h H1 e
end
abbrev st_check_step : Stmt := topS 11
abbrev N_check_step : List Str := ["value"]
theorem sc_check_step : FnScope N_check_step ["value"] (defScope st_check_step) := ⟨rfl, rfl, rfl, by decide +kernel, rfl, by decide +kernel, by decide +kernel⟩
section
variable {P : Program} {w : World} {K : Fg} {mg : Str → Option Value} {base : Heap}
theorem ok_check_tooth (Z : Df K mg "check_tooth" st_check_tooth) (c_is_int : Cal P w K mg base "is_int" ["value", "low", "high"] 1 (spF K F_is_int)) (e_BadTooth : ExF K mg "BadTooth") : Cal P w K mg base "check_tooth" ["gear", "value"] 2 (spF K F_check_tooth) := by
  refine Z.calF sc_check_tooth (fun _ _ _ _ _ _ us hl => match us, hl with | [_, _], _ => rfl) len_check_tooth (fun f cdv A outer s H vs Q E ds r hr hd hf hk => ?_)
  refine ⟨_, (pss_one (ps_if (pt_not (pt_val (pe_cal c_is_int (hr.mono (by decide)) px (pa_cons (pv 1) (pa_cons pe_int (pa_cons (pe_op op_sub (pe_ix ix_seq (pv 0) pe_int (fun _ _ => rfl)) pe_int) pa_nil)))))) (pss_one (ps_rz e_BadTooth)) pss_nil)), ?_⟩
  try dsimp only [cxOf]
  obtain ⟨N, w', s', d, rfl, g, hf⟩ := hf
  obtain ⟨v0, r0, rfl, h0, hd⟩ := dps_cons hd
  obtain ⟨v1, r1, rfl, h1, hd⟩ := dps_cons hd
  obtain rfl := dps_nil hd
  rcases hf with ⟨q, rfl⟩ | ⟨q, rfl⟩
  · exact j_no (yt_is (yt_not (yt_B (by walk_at "y"))) (by rw [q] <;> rfl)) fun H1 e1 => hk .non H1 e1 .non
  · exact j_yes (yt_is (yt_not (yt_B (by walk_at "y"))) (by rw [q] <;> rfl)) fun H1 e1 => hk H1 e1
theorem ok_check_step (Z : Df K mg "check_step" st_check_step) (c_is_int : Cal P w K mg base "is_int" ["value", "low", "high"] 1 (spF K F_is_int)) (e_BadNumber : ExF K mg "BadNumber") (g_MOST_STEP : ∃ t, mg "MOST_STEP" = some (.int 1000000 t)) : Cal P w K mg base "check_step" ["value"] 2 (spF K F_check_step) := by
  refine Z.calF sc_check_step (fun _ _ _ _ _ _ us hl => match us, hl with | [_], _ => rfl) len_check_step (fun f cdv A outer s H vs Q E ds r hr hd hf hk => ?_)
  refine ⟨_, (pss_one (ps_if (pt_not (pt_val (pe_cal c_is_int (hr.mono (by decide)) px (pa_cons (pv 0) (pa_cons pe_int (pa_cons (pe_gint g_MOST_STEP) pa_nil)))))) (pss_one (ps_rz e_BadNumber)) pss_nil)), ?_⟩
  try dsimp only [cxOf]
  obtain ⟨d, rfl, hf⟩ := hf
  obtain ⟨v0, r0, rfl, h0, hd⟩ := dps_cons hd
  obtain rfl := dps_nil hd
  rcases hf with ⟨q, rfl⟩ | ⟨q, rfl⟩
  · exact j_no (yt_is (yt_not (yt_B (by walk_at "y"))) (by rw [q] <;> rfl)) fun H1 e1 => hk .non H1 e1 .non
  · exact j_yes (yt_is (yt_not (yt_B (by walk_at "y"))) (by rw [q] <;> rfl)) fun H1 e1 => hk H1 e1
end

/-! ### wheelcurves/gears.py -/
def gcI (a b : Int) : Int := (Int.gcd a b : Int)
def petI (N w : Int) : Int := N / gcI N w
def rndI (N w : Int) : Int := w / gcI N w
def lenI (N w : Int) : Int := N * w / gcI N w
theorem gcd_step {a b : Int} (ha : 0 ≤ a) (hb : 0 < b) : Int.gcd b (a % b) = Int.gcd a b := by
  obtain ⟨m, rfl⟩ := Int.eq_ofNat_of_zero_le ha
  obtain ⟨n, rfl⟩ := Int.eq_ofNat_of_zero_le (Int.le_of_lt hb)
  rw [← Int.natCast_emod]
  show Nat.gcd n (m % n) = Nat.gcd m n
  rw [Nat.gcd_comm n (m % n), ← Nat.gcd_rec, Nat.gcd_comm]
theorem gcI_pos {a b : Int} (h : 0 < a) : 0 < gcI a b := by
  have : Int.gcd a b ≠ 0 := fun z => by
    have := (Int.gcd_eq_zero_iff.mp z).1
    omega
  unfold gcI
  omega
theorem gcI_le {a b : Int} (h : 0 < a) : gcI a b ≤ a := Int.le_of_dvd h (Int.gcd_dvd_left ..)
theorem gcI_leR {a b : Int} (h : 0 < b) : gcI a b ≤ b := Int.le_of_dvd h (Int.gcd_dvd_right ..)
theorem gcI_small {N w : Int} {s : Str} (g : Gok N w s) : 0 < gcI N w ∧ gcI N w < 1073741824 := by
  have h1 := gcI_pos (a := N) (b := w) (by have := g.n3; omega)
  have h2 := gcI_le (a := N) (b := w) (by have := g.n3; omega)
  have := g.n150
  omega
abbrev st_common : Stmt := topS 7
abbrev N_common : List Str := ["one", "other"]
theorem sc_common : FnScope N_common ["one", "other"] (defScope st_common) := ⟨rfl, rfl, rfl, by decide +kernel, rfl, by decide +kernel, by decide +kernel⟩
abbrev st_shared_of : Stmt := topS 13
abbrev N_shared_of : List Str := ["gear"]
theorem sc_shared_of : FnScope N_shared_of ["gear"] (defScope st_shared_of) := ⟨rfl, rfl, rfl, by decide +kernel, rfl, by decide +kernel, by decide +kernel⟩
abbrev st_length_of : Stmt := topS 14
abbrev N_length_of : List Str := ["gear"]
theorem sc_length_of : FnScope N_length_of ["gear"] (defScope st_length_of) := ⟨rfl, rfl, rfl, by decide +kernel, rfl, by decide +kernel, by decide +kernel⟩
abbrev st_length : Stmt := topS 15
abbrev N_length : List Str := ["gear"]
theorem sc_length : FnScope N_length ["gear"] (defScope st_length) := ⟨rfl, rfl, rfl, by decide +kernel, rfl, by decide +kernel, by decide +kernel⟩
abbrev st_petals_of : Stmt := topS 16
abbrev N_petals_of : List Str := ["gear"]
theorem sc_petals_of : FnScope N_petals_of ["gear"] (defScope st_petals_of) := ⟨rfl, rfl, rfl, by decide +kernel, rfl, by decide +kernel, by decide +kernel⟩
abbrev st_rounds_of : Stmt := topS 17
abbrev N_rounds_of : List Str := ["gear"]
theorem sc_rounds_of : FnScope N_rounds_of ["gear"] (defScope st_rounds_of) := ⟨rfl, rfl, rfl, by decide +kernel, rfl, by decide +kernel, by decide +kernel⟩
abbrev st_wheel_turns : Stmt := topS 18
abbrev N_wheel_turns : List Str := ["gear"]
theorem sc_wheel_turns : FnScope N_wheel_turns ["gear"] (defScope st_wheel_turns) := ⟨rfl, rfl, rfl, by decide +kernel, rfl, by decide +kernel, by decide +kernel⟩
def F_common (ds : List Dt) (r : Res) : Prop := ∃ a b, ds = [.int a, .int b] ∧ 0 ≤ a ∧ 0 ≤ b ∧ r = .val (.int (gcI a b))
theorem len_common : ∀ ds r, F_common ds r → ds.length = 2 := fun _ _ ⟨_, _, e, _⟩ => e ▸ rfl
theorem f_common {a b : Int} (ha : 0 ≤ a) (hb : 0 ≤ b) : F_common [.int a, .int b] (.val (.int (gcI a b))) := ⟨a, b, rfl, ha, hb, rfl⟩
def F_shared_of (ds : List Dt) (r : Res) : Prop := ∃ N w s, ds = [gear N w s] ∧ Gok N w s ∧ r = .val (.int (gcI N w))
theorem len_shared_of : ∀ ds r, F_shared_of ds r → ds.length = 1 := fun _ _ ⟨_, _, _, e, _⟩ => e ▸ rfl
def F_length_of (ds : List Dt) (r : Res) : Prop := ∃ N w s, ds = [gear N w s] ∧ Gok N w s ∧ r = .val (.int (lenI N w))
theorem len_length_of : ∀ ds r, F_length_of ds r → ds.length = 1 := fun _ _ ⟨_, _, _, e, _⟩ => e ▸ rfl
def F_petals_of (ds : List Dt) (r : Res) : Prop := ∃ N w s, ds = [gear N w s] ∧ Gok N w s ∧ r = .val (.int (petI N w))
theorem len_petals_of : ∀ ds r, F_petals_of ds r → ds.length = 1 := fun _ _ ⟨_, _, _, e, _⟩ => e ▸ rfl
def F_rounds_of (ds : List Dt) (r : Res) : Prop := ∃ N w s, ds = [gear N w s] ∧ Gok N w s ∧ r = .val (.int (rndI N w))
theorem len_rounds_of : ∀ ds r, F_rounds_of ds r → ds.length = 1 := fun _ _ ⟨_, _, _, e, _⟩ => e ▸ rfl
theorem f_shared {N w : Int} {s : Str} (g : Gok N w s) : F_shared_of [gear N w s] (.val (.int (gcI N w))) := ⟨N, w, s, rfl, g, rfl⟩
theorem f_len {N w : Int} {s : Str} (g : Gok N w s) : F_length_of [gear N w s] (.val (.int (lenI N w))) := ⟨N, w, s, rfl, g, rfl⟩
theorem f_pet {N w : Int} {s : Str} (g : Gok N w s) : F_petals_of [gear N w s] (.val (.int (petI N w))) := ⟨N, w, s, rfl, g, rfl⟩
theorem f_rnd {N w : Int} {s : Str} (g : Gok N w s) : F_rounds_of [gear N w s] (.val (.int (rndI N w))) := ⟨N, w, s, rfl, g, rfl⟩
local macro_rules | `(tactic| walk_at "f") => `(tactic| first | with_reducible exact f_shared (by assumption) | with_reducible exact f_len (by assumption) | with_reducible exact f_pet (by assumption) | with_reducible exact f_rnd (by assumption))
/-- the functions of one gear -/
def F1 (z : Int → Int → Str → Dt) (ds : List Dt) (r : Res) : Prop := ∃ d, ds = [d] ∧ Gf (fun N w s r => r = .val (z N w s)) d r
theorem F1.len {z : Int → Int → Str → Dt} : ∀ ds r, F1 z ds r → ds.length = 1 := fun _ _ ⟨_, e, _⟩ => e ▸ rfl
theorem F1.ok {z : Int → Int → Str → Dt} {N w : Int} {s : Str} (g : Gok N w s) : F1 z [gear N w s] (.val (z N w s)) := ⟨_, rfl, .ok g rfl⟩
theorem F1.bad {z : Int → Int → Str → Dt} {d : Dt} (h : isGearD d = false) : F1 z [d] (.exc "BadGear") := ⟨_, rfl, .bad h⟩
def turnI (N w : Int) (s : Str) : Int := if s = sIn then petI N w - rndI N w else petI N w + rndI N w
abbrev F_length := F1 fun N w _ => .int (lenI N w)
abbrev F_petals := F1 fun N w _ => .int (petI N w)
abbrev F_rounds := F1 fun N w _ => .int (rndI N w)
abbrev F_wheel_turns := F1 fun N w s => .int (turnI N w s)
abbrev F_is_plain := F1 fun N w _ => .bool (decide (gcI N w = 1))
abbrev F_plainest := F1 fun N w _ => .tuple [.int (petI N w), .int (rndI N w)]
theorem len_length : ∀ ds r, F_length ds r → ds.length = 1 := F1.len
theorem len_petals : ∀ ds r, F_petals ds r → ds.length = 1 := F1.len
theorem len_rounds : ∀ ds r, F_rounds ds r → ds.length = 1 := F1.len
theorem len_wheel_turns : ∀ ds r, F_wheel_turns ds r → ds.length = 1 := F1.len
theorem len_is_plain : ∀ ds r, F_is_plain ds r → ds.length = 1 := F1.len
theorem len_plainest : ∀ ds r, F_plainest ds r → ds.length = 1 := F1.len
theorem side_ok {N w : Int} {s : Str} (g : Gok N w s) : PyData.strOk s = true := by
  rcases g.side with ⟨rfl, _⟩ | rfl <;> decide +kernel
section
variable {P : Program} {w : World} {K : Fg} {mg : Str → Option Value} {base : Heap}
theorem ok_common (Z : Df K mg "common" st_common) : Cal P w K mg base "common" ["one", "other"] 1 (spF K F_common) := by
  refine Z.calF sc_common (fun _ _ _ _ _ _ us hl => match us, hl with | [_, _], _ => rfl) len_common (fun f cdv A outer s H vs Q E ds r hr hd hf hk => ?_)
  refine ⟨_, (pss_cons (ps_while (passes_of rfl) (pt_cmpR (op_neD hr.units) (pv 1) pe_int (nomark _)) (pss_one (ps_par (i := 0) (j := 1) rfl sc_common.nd rfl rfl (by decide) rfl rfl (pa_cons (pv 1) (pa_cons (pe_op op_mod (pv 0) (pv 1)) pa_nil)) rfl)))
    (pss_one (ps_ret (pv 0)))), ?_⟩
  try dsimp only [cxOf]
  obtain ⟨a, b, rfl, ha, hb, rfl⟩ := hf
  obtain ⟨v0, r0, rfl, h0, hd⟩ := dps_cons hd
  obtain ⟨v1, r1, rfl, h1, hd⟩ := dps_cons hd
  obtain rfl := dps_nil hd
  obtain rfl := dp_int h0
  obtain rfl := dp_int h1
  refine w_while (fun m σ' H' => ∃ x y : Int, σ' = [some (.int x), some (.int y)] ∧ 0 ≤ x ∧ 0 ≤ y ∧ m = y.toNat ∧ gcI x y = gcI a b ∧ Ex H H') b.toNat ⟨a, b, rfl, ha, hb, rfl, rfl, ex_rfl⟩ ?_
  rintro m σ' H' ⟨x, y, rfl, hx, hy, rfl, hg, e⟩
  refine ⟨decide (y ≠ 0), yt_test (K := K) (by walk_at "y"), fun q H1 e1 => ?_, fun q H1 e1 => ?_⟩
  · have hy' : 0 < y := by have := of_decide_eq_true q; omega
    refine z_parI (K := K) (by walk_at "y") fun H2 e2 => ?_
    have l := Int.emod_lt_of_pos x hy'
    have l0 := Int.emod_nonneg x (show y ≠ 0 by omega)
    refine ⟨(x % y).toNat, by omega, y, x % y, rfl, hy, l0, rfl, ?_, (e.trans e1).trans e2⟩
    rw [← hg]
    unfold gcI
    rw [gcd_step hx hy']
  · have hy' : y = 0 := by have := of_decide_eq_false q; omega
    subst hy'
    have hx0 : gcI x 0 = x := by
      unfold gcI
      rw [Int.gcd_zero_right]
      omega
    refine r_go (Yd.is (by walk_at "y") ?_) (Res.mono (e.trans e1) hk)
    rw [← hg, hx0]
theorem ok_shared_of (Z : Df K mg "shared_of" st_shared_of) (c_common : Cal P w K mg base "common" ["one", "other"] 1 (spF K F_common)) : Cal P w K mg base "shared_of" ["gear"] 2 (spF K F_shared_of) := by
  refine Z.calF sc_shared_of (fun _ _ _ _ _ _ us hl => match us, hl with | [_], _ => rfl) len_shared_of (fun f cdv A outer s H vs Q E ds r hr hd hf hk => ?_)
  refine ⟨_, (pss_one (ps_ret (pe_cal c_common (hr.mono (by decide)) px (pa_cons (pe_ix ix_seq (pv 0) pe_int (fun _ _ => rfl)) (pa_cons (pe_ix ix_seq (pv 0) pe_int (fun _ _ => rfl)) pa_nil))))), ?_⟩
  try dsimp only [cxOf]
  obtain ⟨N, w', s', rfl, g, rfl⟩ := hf
  obtain ⟨v0, r0, rfl, h0, hd⟩ := dps_cons hd
  obtain rfl := dps_nil hd
  have := g.n3
  have := g.w2
  exact r_go (yd_call (by walk_at "y") (f_common (by omega) (by omega))) hk
theorem ok_length_of (Z : Df K mg "length_of" st_length_of) (c_shared_of : Cal P w K mg base "shared_of" ["gear"] 2 (spF K F_shared_of)) : Cal P w K mg base "length_of" ["gear"] 3 (spF K F_length_of) := by
  refine Z.calF sc_length_of (fun _ _ _ _ _ _ us hl => match us, hl with | [_], _ => rfl) len_length_of (fun f cdv A outer s H vs Q E ds r hr hd hf hk => ?_)
  refine ⟨_, (pss_one (ps_ret (pe_op op_fdiv (pe_op op_mul (pe_ix ix_seq (pv 0) pe_int (fun _ _ => rfl)) (pe_ix ix_seq (pv 0) pe_int (fun _ _ => rfl))) (pe_cal c_shared_of (hr.mono (by decide)) px (pa_cons (pv 0) pa_nil))))), ?_⟩
  try dsimp only [cxOf]
  obtain ⟨N, w', s', rfl, g, rfl⟩ := hf
  obtain ⟨v0, r0, rfl, h0, hd⟩ := dps_cons hd
  obtain rfl := dps_nil hd
  have := g.n3
  have := g.n150
  have := g.w2
  have := gcI_small g
  exact r_go (yd_op (by walk_at "y") (yd_call (ya_cons (yd_var rfl h0) ya_nil) (f_shared g)) (rd_fdiv (by omega))) hk
theorem ok_petals_of (Z : Df K mg "petals_of" st_petals_of) (c_shared_of : Cal P w K mg base "shared_of" ["gear"] 2 (spF K F_shared_of)) : Cal P w K mg base "petals_of" ["gear"] 3 (spF K F_petals_of) := by
  refine Z.calF sc_petals_of (fun _ _ _ _ _ _ us hl => match us, hl with | [_], _ => rfl) len_petals_of (fun f cdv A outer s H vs Q E ds r hr hd hf hk => ?_)
  refine ⟨_, (pss_one (ps_ret (pe_op op_fdiv (pe_ix ix_seq (pv 0) pe_int (fun _ _ => rfl)) (pe_cal c_shared_of (hr.mono (by decide)) px (pa_cons (pv 0) pa_nil))))), ?_⟩
  try dsimp only [cxOf]
  obtain ⟨N, w', s', rfl, g, rfl⟩ := hf
  obtain ⟨v0, r0, rfl, h0, hd⟩ := dps_cons hd
  obtain rfl := dps_nil hd
  have := gcI_small g
  exact r_go (yd_op (by walk_at "y") (yd_call (ya_cons (yd_var rfl h0) ya_nil) (f_shared g)) (rd_fdiv (by omega))) hk
theorem ok_rounds_of (Z : Df K mg "rounds_of" st_rounds_of) (c_shared_of : Cal P w K mg base "shared_of" ["gear"] 2 (spF K F_shared_of)) : Cal P w K mg base "rounds_of" ["gear"] 3 (spF K F_rounds_of) := by
  refine Z.calF sc_rounds_of (fun _ _ _ _ _ _ us hl => match us, hl with | [_], _ => rfl) len_rounds_of (fun f cdv A outer s H vs Q E ds r hr hd hf hk => ?_)
  refine ⟨_, (pss_one (ps_ret (pe_op op_fdiv (pe_ix ix_seq (pv 0) pe_int (fun _ _ => rfl)) (pe_cal c_shared_of (hr.mono (by decide)) px (pa_cons (pv 0) pa_nil))))), ?_⟩
  try dsimp only [cxOf]
  obtain ⟨N, w', s', rfl, g, rfl⟩ := hf
  obtain ⟨v0, r0, rfl, h0, hd⟩ := dps_cons hd
  obtain rfl := dps_nil hd
  have := gcI_small g
  exact r_go (yd_op (by walk_at "y") (yd_call (ya_cons (yd_var rfl h0) ya_nil) (f_shared g)) (rd_fdiv (by omega))) hk
theorem ok_length (Z : Df K mg "length" st_length) (c_check_gear : Cal P w K mg base "check_gear" ["value"] 3 (spF K F_check_gear)) (c_length_of : Cal P w K mg base "length_of" ["gear"] 3 (spF K F_length_of)) : Cal P w K mg base "length" ["gear"] 4 (spF K F_length) := by
  refine Z.calF sc_length (fun _ _ _ _ _ _ us hl => match us, hl with | [_], _ => rfl) len_length (fun f cdv A outer s H vs Q E ds r hr hd hf hk => ?_)
  refine ⟨_, (pss_cons (ps_expr (pe_cal c_check_gear (hr.mono (by decide)) px (pa_cons (pv 0) pa_nil)))
    (pss_one (ps_ret (pe_cal c_length_of (hr.mono (by decide)) px (pa_cons (pv 0) pa_nil))))), ?_⟩
  try dsimp only [cxOf]
  obtain ⟨d, rfl, hf⟩ := hf
  obtain ⟨v0, r0, rfl, h0, hd⟩ := dps_cons hd
  obtain rfl := dps_nil hd
  refine st_gear hf hk h0 rfl fun N w' s' e g q H1 e1 => ?_
  subst e q
  exact r_go (by walk_at "y") (Res.mono e1 hk)
theorem ok_wheel_turns (Z : Df K mg "wheel_turns" st_wheel_turns) (c_check_gear : Cal P w K mg base "check_gear" ["value"] 3 (spF K F_check_gear)) (c_petals_of : Cal P w K mg base "petals_of" ["gear"] 3 (spF K F_petals_of)) (c_rounds_of : Cal P w K mg base "rounds_of" ["gear"] 3 (spF K F_rounds_of)) : Cal P w K mg base "wheel_turns" ["gear"] 4 (spF K F_wheel_turns) := by
  refine Z.calF sc_wheel_turns (fun _ _ _ _ _ _ us hl => match us, hl with | [_], _ => rfl) len_wheel_turns (fun f cdv A outer s H vs Q E ds r hr hd hf hk => ?_)
  refine ⟨_, (pss_cons (ps_expr (pe_cal c_check_gear (hr.mono (by decide)) px (pa_cons (pv 0) pa_nil)))
    (pss_cons (ps_if (pt_cmpR (op_eqD hr.units) (pe_ix ix_seq (pv 0) pe_int (fun _ _ => rfl)) pe_str (nomark _)) (pss_one (ps_ret (pe_op op_sub (pe_cal c_petals_of (hr.mono (by decide)) px (pa_cons (pv 0) pa_nil)) (pe_cal c_rounds_of (hr.mono (by decide)) px (pa_cons (pv 0) pa_nil))))) pss_nil)
    (pss_one (ps_ret (pe_op op_add (pe_cal c_petals_of (hr.mono (by decide)) px (pa_cons (pv 0) pa_nil)) (pe_cal c_rounds_of (hr.mono (by decide)) px (pa_cons (pv 0) pa_nil))))))), ?_⟩
  try dsimp only [cxOf]
  obtain ⟨d, rfl, hf⟩ := hf
  obtain ⟨v0, r0, rfl, h0, hd⟩ := dps_cons hd
  obtain rfl := dps_nil hd
  refine st_gear hf hk h0 rfl fun N w' s' e g q H1 e1 => ?_
  subst e q
  refine i_when (yt_test (yd_op (by walk_at "y") (by walk_at "y") (rd_eqS (side_ok g) (by decide +kernel)))) (fun q H2 e2 => ?_) fun q H2 e2 => ?_
  · refine r_go (Yd.is (by walk_at "y") ?_) (Res.mono (e1.trans e2) hk)
    show _ = PyData.int (turnI N w' s')
    unfold turnI
    rw [if_pos (of_decide_eq_true q)]
  · refine r_go (Yd.is (by walk_at "y") ?_) (Res.mono (e1.trans e2) hk)
    show _ = PyData.int (turnI N w' s')
    unfold turnI
    rw [if_neg (of_decide_eq_false q)]
end

/-! ### the law's draws -/
abbrev st__law_start : Stmt := topS 27
abbrev N__law_start : List Str := ["_law_script"]
theorem sc__law_start : FnScope N__law_start ["_law_script"] (defScope st__law_start) := ⟨rfl, rfl, rfl, by decide +kernel, rfl, by decide +kernel, by decide +kernel⟩
abbrev st__law_draw : Stmt := topS 28
abbrev N__law_draw : List Str := ["_law_draws", "_law_limit", "_law_numbers", "_law_at", "_law_cell", "_law_mixed"]
theorem sc__law_draw : FnScope N__law_draw ["_law_draws", "_law_limit"] (defScope st__law_draw) := ⟨rfl, rfl, rfl, by decide +kernel, rfl, by decide +kernel, by decide +kernel⟩
abbrev st__law_pick : Stmt := topS 29
abbrev N__law_pick : List Str := ["_law_draws", "_law_choices"]
theorem sc__law_pick : FnScope N__law_pick ["_law_draws", "_law_choices"] (defScope st__law_pick) := ⟨rfl, rfl, rfl, by decide +kernel, rfl, by decide +kernel, by decide +kernel⟩
abbrev st__law_gear : Stmt := topS 31
abbrev N__law_gear : List Str := ["_law_draws", "_law_wide", "_law_side", "_law_ring", "_law_wheel"]
theorem sc__law_gear : FnScope N__law_gear ["_law_draws"] (defScope st__law_gear) := ⟨rfl, rfl, rfl, by decide +kernel, rfl, by decide +kernel, by decide +kernel⟩
def spGear (K : Fg) : Sp := fun vs H Q _ => ∃ (p q : Addr), vs = [.ref p] ∧ Dr H p q ∧ ∀ v N w s H2, Gok N w s → Exd p q H H2 → Dr H2 p q → Dp K (msk p q H2) v (gear N w s) → Q v H2
theorem len__law_pick {K : Fg} : ∀ vs H Q E, spPick K vs H Q E → vs.length = 2 := fun _ _ _ _ ⟨_, _, _, _, e, _⟩ => e ▸ rfl
theorem len__law_gear {K : Fg} : ∀ vs H Q E, spGear K vs H Q E → vs.length = 1 := fun _ _ _ _ ⟨_, _, e, _⟩ => e ▸ rfl
theorem q_start {K : Fg} {σ : L2.St} {H : Hp} {E : XK} {D : Ends} {tz : TS} {i j : Nat} {a : Addr} {ns : List Int} (hx : σ[i]? = some (some (.ref a))) (hS : SqL K H a (ns.map V.int)) (hl : ns.length ≤ 63)
    (k : ∀ p q H1, H p = none → H q = none → Ex H H1 → Dr H1 p q → tz D (σ.set j (some (.ref p))) H1) : tSeq (tAsg (tCall (spStart K) [] E (tCons (tVar i) tNil)) (gName j)) tz D σ H := ⟨.ref a, hx, a, ns, rfl, hS, hl, fun p q H1 hp hq e hd => k p q H1 hp hq e hd⟩
theorem q_gear {K : Fg} {σ : L2.St} {H : Hp} {E : XK} {D : Ends} {tz : TS} {i j : Nat} {p q : Addr} (hx : σ[i]? = some (some (.ref p))) (hD : Dr H p q)
    (k : ∀ v N w s H2, Gok N w s → Exd p q H H2 → Dr H2 p q → Dp K (msk p q H2) v (gear N w s) → tz D (σ.set j (some v)) H2) : tSeq (tAsg (tCall (spGear K) [] E (tCons (tVar i) tNil)) (gName j)) tz D σ H := ⟨.ref p, hx, p, q, rfl, hD, fun v N w s H2 g e d h => k v N w s H2 g e d h⟩
def F__law_true (ds : List Dt) (r : Res) : Prop := ∃ a b, ds = [.bool a, .bool b] ∧ r = .val (.bool (decide (a = b)))
theorem f_true {a b : Bool} : F__law_true [.bool a, .bool b] (.val (.bool (decide (a = b)))) := ⟨a, b, rfl, rfl⟩
theorem len__law_true : ∀ ds r, F__law_true ds r → ds.length = 2 := fun _ _ ⟨_, _, e, _⟩ => e ▸ rfl
/-- the pairs of teeth, until the curve closes -/
def rollL (N w : Int) : Nat := Nat.lcm N.toNat w.toNat
def roll (N w st : Int) (n : Nat) : List Dt := (List.range n).map fun (i : Nat) => .tuple [.int ((st + i) % N), .int ((i : Int) % w)]
theorem roll_succ (N w st : Int) (n : Nat) : roll N w st (n + 1) = roll N w st n ++ [.tuple [.int ((st + n) % N), .int ((n : Int) % w)]] := by
  unfold roll
  rw [List.range_succ, List.map_append] <;> rfl
theorem roll_len (N w st : Int) (n : Nat) : (roll N w st n).length = n := by
  unfold roll
  rw [List.length_map, List.length_range]
theorem roll_pl (N w st : Int) (n : Nat) : pls (roll N w st n) = true := pls_map fun i => by simp [pl, pls]
theorem roll_no (N w st : Int) (n : Nat) : noLsts (roll N w st n) = true := by
  induction n with
  | zero => show noLsts [] = true; rw [noLsts]
  | succ n ih =>
    rw [roll_succ]
    exact noLsts_app ih (by simp [noLst, noLsts])
theorem roll_depth (N w st : Int) (n : Nat) : PyData.depth (.list (roll N w st n)) ≤ 64 := by
  rw [PyData.depth]
  have : PyData.depthAll (roll N w st n) ≤ 1 := depth_map fun i => by simp [PyData.depth, PyData.depthAll]
  omega
theorem rollL_pos {N w : Int} (h1 : 0 < N) (h2 : 0 < w) : 0 < rollL N w := Nat.lcm_pos (by omega) (by omega)
theorem rollL_le {N w : Int} {s : Str} (g : Gok N w s) : rollL N w ≤ 22500 := by
  have h1 := g.n3
  have h2 := g.n150
  have h3 := g.w2
  have h4 := g.w150
  have h5 : rollL N w ≤ N.toNat * w.toNat := Nat.le_of_dvd (Nat.mul_pos (by omega) (by omega)) (Nat.lcm_dvd_mul _ _)
  exact Nat.le_trans h5 (Nat.mul_le_mul (show N.toNat ≤ 150 by omega) (show w.toNat ≤ 150 by omega))
theorem back_iff {N st : Int} {t : Nat} (h0 : 0 ≤ st) (h1 : st < N) : (st + t) % N = st ↔ N.toNat ∣ t := by
  have e : st % N = st := Int.emod_eq_of_lt h0 h1
  have hN : ((N.toNat : Nat) : Int) = N := by omega
  rw [← Int.natCast_dvd_natCast, hN]
  constructor
  · intro h
    have : (st + t) % N = st % N := h.trans e.symm
    have h2 := (Int.emod_emod_of_dvd (st + t) (Int.dvd_refl N))
    have h3 := Int.emod_eq_emod_iff_emod_sub_eq_zero.mp this
    have h4 : st + t - st = (t : Int) := by omega
    rw [h4] at h3
    exact Int.dvd_of_emod_eq_zero h3
  · intro h
    have : (st + t) % N = st % N := Int.emod_eq_emod_iff_emod_sub_eq_zero.mpr (by
      have h4 : st + t - st = (t : Int) := by omega
      rw [h4]
      exact Int.emod_eq_zero_of_dvd h)
    rw [this, e]
theorem zero_iff {w : Int} {t : Nat} (h1 : 0 < w) : (t : Int) % w = 0 ↔ w.toNat ∣ t := by
  have := back_iff (N := w) (st := 0) (t := t) (by omega) h1
  rwa [Int.zero_add] at this
theorem rollL_iff {N w st : Int} {t : Nat} (h0 : 0 ≤ st) (h1 : st < N) (hw : 0 < w) : ((st + t) % N = st ∧ (t : Int) % w = 0) ↔ rollL N w ∣ t := by
  rw [back_iff h0 h1, zero_iff hw]
  exact Nat.lcm_dvd_iff.symm
theorem mod_next {x N : Int} : (x % N + 1) % N = (x + 1) % N := Int.emod_add_emod x N 1
def F__law_roll (ds : List Dt) (r : Res) : Prop := ∃ N w s st, ds = [gear N w s, .int st] ∧ Gok N w s ∧ 0 ≤ st ∧ st < N ∧ r = .new (roll N w st (rollL N w))
theorem f_roll {N w : Int} {s : Str} {st : Int} (g : Gok N w s) (h0 : 0 ≤ st) (h1 : st < N) : F__law_roll [gear N w s, .int st] (.new (roll N w st (rollL N w))) := ⟨N, w, s, st, rfl, g, h0, h1, rfl⟩
theorem len__law_roll : ∀ ds r, F__law_roll ds r → ds.length = 2 := fun _ _ ⟨_, _, _, _, e, _⟩ => e ▸ rfl
theorem len__law_start {K : Fg} : ∀ vs H Q E, spStart K vs H Q E → vs.length = 1 := fun _ _ _ _ ⟨_, _, e, _⟩ => e ▸ rfl
theorem len__law_draw : ∀ vs H Q E, spDraw vs H Q E → vs.length = 2 := fun _ _ _ _ ⟨_, _, _, e, _⟩ => e ▸ rfl
section
variable {P : Program} {w : World} {K : Fg} {mg : Str → Option Value} {base : Heap}
theorem ok__law_start (Z : Df K mg "_law_start" st__law_start) (m_list : mg "list" = none) : Cal P w K mg base "_law_start" ["_law_script"] 1 (spStart K) := by
  refine Z.cal sc__law_start (fun _ _ _ _ _ _ us hl => match us, hl with | [_], _ => rfl) len__law_start (fun f cdv A outer s H vs Q E hr hf => ?_)
  refine ⟨_, (pss_one (ps_ret (pe_lst (pa_cons (pe_ifExp (pt_cmpR (op_neD hr.units) (pv 0) (pe_lst pa_nil) (nomark _)) (pe_callTy call_list_of rfl m_list (by decide +kernel) (pa_cons (pv 0) pa_nil)) (pe_lst (pa_cons pe_int pa_nil))) (pa_cons pe_int pa_nil))))), ?_⟩
  try dsimp only [cxOf]
  obtain ⟨a, ns, rfl, hS, hl, k⟩ := hf
  have h0 : Dp K H (.ref a) (.list (ns.map .int)) := .lst hS (dps_ints ns)
  have key : Yn K (tIf (tTest (tOp (rNeD K) (tVar 0) (tLst tNil))) (tCB (fun xs H Q => ∃ p ys, xs = [.ref p] ∧ (SqL K H p ys ∨ SqT K H p ys) ∧ ∀ l, H l = none → Q (.ref l) (upd H l (.lst ys))) (tCons (tVar 0) tNil)) (tLst (tCons (tC (.int 0)) tNil))) (L2.start N__law_start [.ref a]) H ((if ns = [] then [0] else ns).map .int) := by
    refine yn_if (yt_test (yd_op (by walk_at "y") (yn_lst ya_nil (by decide)).yd (rd_neL (ms := [])))) (fun q => ?_) fun q => ?_
    · rw [if_neg (of_decide_eq_true q)]
      exact yn_cb (by walk_at "y") rn_list
    · have z : ns = [] := by
        have := of_decide_eq_false q
        exact Decidable.not_not.mp this
      rw [if_pos z]
      exact yn_lst (ya_cons yd_int ya_nil) (by decide)
  refine key H ex_rfl _ fun q xs H1 hq e1 h1 hd => ⟨by show 2 ≤ sizeLine; decide, fun p hp => ?_⟩
  obtain rfl := of_dps_ints hd
  have npq : q ≠ p := ne_of_none h1 hp
  refine k p q _ (Evl.fresh_back e1 hp) hq (e1.trans (Evl.Ex.new hp)) ⟨npq.symm, 0, _, upd_same, by rw [upd_ne npq]; exact h1, ?_, ?_⟩
  · split
    · simp
    · assumption
  · split
    · simp
    · omega
theorem ok__law_draw (Z : Df K mg "_law_draw" st__law_draw) (m_len : mg "len" = none) : Cal P w K mg base "_law_draw" ["_law_draws", "_law_limit"] 1 spDraw := by
  refine Z.cal sc__law_draw (fun _ _ _ _ _ _ us hl => match us, hl with | [_, _], _ => rfl) len__law_draw (fun f cdv A outer s H vs Q E hr hf => ?_)
  refine ⟨_, (pss_cons (ps_set (i := 2) sc__law_draw.nd rfl (.inl rfl) (pe_ix ix_seq (pv 0) pe_int (fun _ _ => rfl)))
    (pss_cons (ps_asg (pe_op op_add (pe_ix ix_seq (pv 0) pe_int (fun _ _ => rfl)) pe_int) (pg_sub (pv 0) pe_int set_list))
    (pss_cons (ps_set (i := 3) sc__law_draw.nd rfl (.inl rfl) (pe_op op_mod (pe_ix ix_seq (pv 0) pe_int (fun _ _ => rfl)) (pe_callB call_len rfl m_len (by decide +kernel) (pa_cons (pv 2) pa_nil))))
    (pss_cons (ps_set (i := 4) sc__law_draw.nd rfl (.inl rfl) (pe_ix ix_seq (pv 2) (pv 3) (fun _ _ => rfl)))
    (pss_cons (ps_if (pt_cmpR op_ge (pv 4) pe_int (nomark _)) (pss_cons (ps_asg (pe_op op_fdiv (pv 4) (pv 1)) (pg_sub (pv 2) (pv 3) set_list))
    (pss_one (ps_ret (pe_op op_mod (pv 4) (pv 1))))) pss_nil)
    (pss_cons (ps_set (i := 5) sc__law_draw.nd rfl (.inl rfl) (pe_op op_mod (pe_op op_add (pv 4) (pe_op op_mul pe_int (pe_ix ix_seq (pv 0) pe_int (fun _ _ => rfl)))) pe_int))
    (pss_cons (ps_set (i := 5) sc__law_draw.nd rfl (.inl rfl) (pe_op op_mod (pe_op op_pow (pv 5) pe_int) pe_int))
    (pss_one (ps_ret (pe_op op_mod (pe_op op_fdiv (pe_op op_mod (pe_op op_add (pe_op op_mul (pe_op op_fdiv (pv 5) pe_int) pe_int) (pv 5)) pe_int) pe_int) (pv 1))))))))))), ?_⟩
  try dsimp only [cxOf]
  obtain ⟨p, q, n, rfl, hn0, hn1, ⟨npq, c, ns, hp, hq, hne, hlen⟩, k⟩ := hf
  -- numbers = draws[0]
  refine ⟨.ref p, rfl, .inl ⟨p, _, 0, .ref q, rfl, rfl, SqL.of hp, atI_nat (j := 0) rfl, ?_⟩⟩
  -- draws[1] = draws[1] + 1
  refine ⟨.ref p, rfl, .inl ⟨p, _, 1, .int c, rfl, rfl, SqL.of hp, atI_nat (j := 1) rfl, c, 1, rfl, rfl, .ref p, rfl, p, _, 1, 1, rfl, rfl, hp, rfl, ?_⟩⟩
  have hp1 : (upd H p (.lst [.ref q, .int (c + 1)])) p = some (.lst [.ref q, .int (c + 1)]) := upd_same
  have hq1 : (upd H p (.lst [.ref q, .int (c + 1)])) q = some (.lst (ns.map V.int)) := by rw [upd_ne npq.symm]; exact hq
  have ex1 : Exd p q H (upd H p (.lst [.ref q, .int (c + 1)])) := fun a o h1 _ h => by rw [upd_ne h1]; exact h
  have dr1 : Dr (upd H p (.lst [.ref q, .int (c + 1)])) p q := ⟨npq, c + 1, ns, hp1, hq1, hne, hlen⟩
  show tSeq _ _ _ _ (upd H p (.lst [.ref q, .int (c + 1)]))
  generalize upd H p (.lst [.ref q, .int (c + 1)]) = H1 at hp1 hq1 ex1 dr1 ⊢
  have hL : 0 < (ns.length : Int) := by
    have : ns.length ≠ 0 := fun z => hne (List.length_eq_zero_iff.mp z)
    omega
  -- at = draws[1] % len(numbers)
  refine ⟨.ref p, rfl, .inl ⟨p, _, 1, .int (c + 1), rfl, rfl, SqL.of hp1, atI_nat (j := 1) rfl, .ref q, rfl, .ref q, _, rfl, .inl ⟨_, SqL.of hq1, rfl⟩, c + 1, (ns.map V.int).length, rfl, rfl, by rw [List.length_map]; exact hL, ?_⟩⟩
  have a0 : 0 ≤ (c + 1) % ((ns.map V.int).length : Int) := Int.emod_nonneg _ (by rw [List.length_map]; omega)
  have a1 : (c + 1) % ((ns.map V.int).length : Int) < ns.length := by
    have := Int.emod_lt_of_pos (c + 1) (show 0 < ((ns.map V.int).length : Int) by rw [List.length_map]; exact hL)
    rw [List.length_map] at this ⊢
    exact this
  dsimp only
  generalize hat : (c + 1) % ((ns.map V.int).length : Int) = at' at a0 a1 ⊢
  obtain ⟨j, rfl⟩ := Int.eq_ofNat_of_zero_le a0
  have hj : j < ns.length := by omega
  have gj : (ns.map V.int)[j]? = some (.int ns[j]) := by rw [List.getElem?_map, List.getElem?_eq_getElem hj] <;> rfl
  -- cell = numbers[at]
  refine ⟨.ref q, rfl, .int (j : Int), rfl, .inl ⟨q, _, (j : Int), .int ns[j], rfl, rfl, SqL.of hq1, atI_nat gj, ?_⟩⟩
  show tSeq _ _ _ _ H1
  generalize ns[j] = cell
  refine i_when (yt_test (K := K) (yd_op (yd_var (v := .int cell) rfl (.int _)) yd_int rd_ge)) (fun _ H2 e2 => ?_) fun _ H2 e2 => ?_
  · -- numbers[at] = cell // limit
    refine (yd_op (K := K) (yd_var (v := .int cell) rfl (.int _)) (yd_var (v := .int n) rfl (.int _)) (rd_fdiv ⟨hn0, by omega⟩)) H2 ex_rfl _ fun v H3 e3 p3 => ?_
    obtain rfl := dp_int p3
    refine ⟨.ref q, rfl, .int (j : Int), rfl, q, _, (j : Int), j, rfl, rfl, e3 _ _ (e2 _ _ hq1), Evl.ixN_nat (by rw [List.length_map]; exact hj), ?_⟩
    refine r_val (K := K) (yd_op (yd_var (v := .int cell) rfl (.int _)) (yd_var (v := .int n) rfl (.int _)) (rd_mod hn0)) fun v H4 e4 p4 => ?_
    obtain rfl := dp_int p4
    refine k _ H4 (Int.emod_nonneg _ (by omega)) (Int.emod_lt_of_pos _ hn0) (ex1.trans fun a o h1 h2 h => e4 _ _ (by rw [upd_ne h2]; exact e3 _ _ (e2 _ _ h))) ⟨npq, c + 1, ns.set j (cell / n), e4 _ _ (by rw [upd_ne npq]; exact e3 _ _ (e2 _ _ hp1)), e4 _ _ (by rw [upd_same, List.map_set]), ?_, by rw [List.length_set]; exact hlen⟩
    intro z
    have := congrArg List.length z
    rw [List.length_set] at this
    exact hne (List.length_eq_zero_iff.mp this)
  · -- mixed = (cell + 104729 * draws[1]) % 4294967291
    have hpd : Dp K H2 (.ref p) (.list [.list (ns.map .int), .int (c + 1)]) := .lst (SqL.of (e2 _ _ hp1)) (.cons (.lst (SqL.of (e2 _ _ hq1)) (dps_ints ns)) (.cons (.int _) .nil))
    refine a_int (K := K) (yd_op (yd_op (yd_var (v := .int cell) rfl (.int _)) (yd_op yd_int (yd_op (yd_var (v := .ref p) rfl hpd) yd_int (rd_ixL (atI_nat (j := 1) rfl))) (rd_mulL (by omega))) rd_add) yd_int (rd_mod (by decide))) fun H3 e3 => ?_
    have m0 := Int.emod_nonneg (cell + 104729 * (c + 1)) (show (4294967291 : Int) ≠ 0 by decide)
    have m1 := Int.emod_lt_of_pos (cell + 104729 * (c + 1)) (show (0 : Int) < 4294967291 by decide)
    show tSeq _ _ _ _ H3
    generalize (cell + 104729 * (c + 1)) % 4294967291 = mixed at m0 m1 ⊢
    refine a_int (K := K) (yd_op (yd_op (yd_var (v := .int mixed) rfl (.int _)) yd_int (rd_pow ⟨by decide, by decide, by omega⟩)) yd_int (rd_mod (by decide))) fun H4 e4 => ?_
    show tRet _ _ _ H4
    have s0 := Int.emod_nonneg (mixed ^ (5 : Int).toNat) (show (4294967279 : Int) ≠ 0 by decide)
    have s1 := Int.emod_lt_of_pos (mixed ^ (5 : Int).toNat) (show (0 : Int) < 4294967279 by decide)
    generalize mixed ^ (5 : Int).toNat % 4294967279 = mx at s0 s1 ⊢
    refine r_val (K := K) (yd_op (yd_op (yd_op (yd_op (yd_op (yd_op (yd_var (v := .int mx) rfl (.int _)) yd_int (rd_fdiv (by decide))) yd_int (rd_mulR (by decide))) (yd_var (v := .int mx) rfl (.int _)) rd_add) yd_int (rd_mod (by decide))) yd_int (rd_fdiv (by decide))) (yd_var (v := .int n) rfl (.int _)) (rd_mod hn0)) fun v H5 e5 p5 => ?_
    obtain rfl := dp_int p5
    have e := ((e2.trans e3).trans e4).trans e5
    exact k _ H5 (Int.emod_nonneg _ (by omega)) (Int.emod_lt_of_pos _ hn0) (ex1.trans (Exd.of_ex e)) (dr1.ex e)
theorem ok__law_pick (Z : Df K mg "_law_pick" st__law_pick) (c__law_draw : Cal P w K mg base "_law_draw" ["_law_draws", "_law_limit"] 1 spDraw) (m_len : mg "len" = none) : Cal P w K mg base "_law_pick" ["_law_draws", "_law_choices"] 2 (spPick K) := by
  refine Z.cal sc__law_pick (fun _ _ _ _ _ _ us hl => match us, hl with | [_, _], _ => rfl) len__law_pick (fun f cdv A outer s H vs Q E hr hf => ?_)
  refine ⟨_, (pss_one (ps_ret (pe_ix ix_seq (pv 1) (pe_cal c__law_draw (hr.mono (by decide)) (passL) (pa_cons (pv 0) (pa_cons (pe_callB call_len rfl m_len (by decide +kernel) (pa_cons (pv 1) pa_nil)) pa_nil))) (fun _ _ => rfl)))), ?_⟩
  try dsimp only [cxOf]
  obtain ⟨p, q, a, xs, rfl, hD, hS, hne, hlen, k⟩ := hf
  have hS' : SqL K H a xs := Evl.ex_l msk_ex hS
  have hL : 0 < xs.length := by
    have : xs.length ≠ 0 := fun z => hne (List.length_eq_zero_iff.mp z)
    omega
  refine ⟨.ref a, rfl, .ref p, rfl, .ref a, rfl, .ref a, xs.length, rfl, (.inl ⟨xs, hS', rfl⟩), p, q, _, rfl, by omega, by omega, hD, fun r H2 h0 h1 e2 d2 => ?_⟩
  obtain ⟨j, rfl⟩ := Int.eq_ofNat_of_zero_le h0
  have hj : j < xs.length := by omega
  exact .inl ⟨a, xs, (j : Int), xs[j], rfl, rfl, Evl.ex_l (msk_exd e2) hS, atI_nat (List.getElem?_eq_getElem hj), k _ H2 (List.getElem_mem hj) e2 d2⟩
theorem ok__law_gear (Z : Df K mg "_law_gear" st__law_gear) (c__law_pick : Cal P w K mg base "_law_pick" ["_law_draws", "_law_choices"] 2 (spPick K)) (c__law_draw : Cal P w K mg base "_law_draw" ["_law_draws", "_law_limit"] 1 spDraw) (m_min : mg "min" = none) : Cal P w K mg base "_law_gear" ["_law_draws"] 3 (spGear K) := by
  refine Z.cal sc__law_gear (fun _ _ _ _ _ _ us hl => match us, hl with | [_], _ => rfl) len__law_gear (fun f cdv A outer s H vs Q E hr hf => ?_)
  refine ⟨_, (pss_cons (ps_set (i := 1) sc__law_gear.nd rfl (.inl rfl) (pe_cal c__law_pick (hr.mono (by decide)) (passL) (pa_cons (pv 0) (pa_cons (pe_lst (pa_cons pe_int (pa_cons pe_int (pa_cons pe_int (pa_cons pe_int pa_nil))))) pa_nil))))
    (pss_cons (ps_set (i := 2) sc__law_gear.nd rfl (.inl rfl) (pe_cal c__law_pick (hr.mono (by decide)) (passL) (pa_cons (pv 0) (pa_cons (pe_lst (pa_cons pe_str (pa_cons pe_str pa_nil))) pa_nil))))
    (pss_cons (ps_set (i := 3) sc__law_gear.nd rfl (.inl rfl) (pe_op op_add pe_int (pe_cal c__law_draw (hr.mono (by decide)) (passL) (pa_cons (pv 0) (pa_cons (pe_op op_add (pe_op op_sub (pv 1) pe_int) pe_int) pa_nil)))))
    (pss_cons (ps_set (i := 3) sc__law_gear.nd rfl (.inl rfl) (pe_callB (call_min2 rfl) rfl m_min (by decide +kernel) (pa_cons (pv 3) (pa_cons pe_int pa_nil))))
    (pss_cons (ps_set (i := 4) sc__law_gear.nd rfl (.inl rfl) (pe_ifExp (pt_cmpR (op_eqD hr.units) (pv 2) pe_str (nomark _)) (pe_op op_add pe_int (pe_cal c__law_draw (hr.mono (by decide)) (passL) (pa_cons (pv 0) (pa_cons (pe_op op_sub (pv 3) pe_int) pa_nil)))) (pe_op op_add pe_int (pe_cal c__law_draw (hr.mono (by decide)) (passL) (pa_cons (pv 0) (pa_cons (pe_callB (call_min2 rfl) rfl m_min (by decide +kernel) (pa_cons pe_int (pa_cons (pe_op op_add (pv 1) pe_int) pa_nil))) pa_nil))))))
    (pss_one (ps_ret (pe_tup (pa_cons (pv 3) (pa_cons (pv 4) (pa_cons (pv 2) pa_nil))))))))))), ?_⟩
  try dsimp only [cxOf]
  obtain ⟨p, q, rfl, hD, k⟩ := hf
  have hm := Md.re hD
  refine q_int hm (zi_pick (K := K) (ns := [6, 14, 40, 150]) (by rfl) (yn_lst (ya_cons yd_int (ya_cons yd_int (ya_cons yd_int (ya_cons yd_int ya_nil)))) (by decide)) (by decide) (by decide)) fun wide H1 hw hm => ?_
  have hw' : wide = 6 ∨ wide = 14 ∨ wide = 40 ∨ wide = 150 := by simpa using hw
  refine q_asg hm (zs_pick (K := K) (ns := [sIn, sOut]) (by rfl) (yn_lst (ya_cons yd_str (ya_cons yd_str ya_nil)) (by decide)) (by decide) (by decide)) fun v H2 ⟨side, ev, hs⟩ hm => ?_
  subst ev
  have hs' : side = sIn ∨ side = sOut := by simpa using hs
  refine q_int hm (zi_op (K := K) (zi_pure (K := K) yd_int) (zi_draw (by rfl) (zi_pure (K := K) (by walk_at "y")) (fun n e => by subst e; omega)) (fun a b ha hb => rd_add)) fun ring H3 hr hm => ?_
  obtain ⟨x, y, rfl, ⟨n, rfl, hy0, hy1⟩, rfl⟩ := hr
  refine a_int (K := K) (by walk_at "y") fun H4 e4 => ?_
  have hm := hm.step e4
  have q0 : 3 ≤ min (3 + y) 150 := by omega
  have q1 : min (3 + y) 150 ≤ 150 := by omega
  have q2 : min (3 + y) 150 ≤ wide := by omega
  generalize min (3 + y) 150 = ring at q0 q1 q2 ⊢
  refine q_int hm (α := fun n => 2 ≤ n ∧ n ≤ 150 ∧ (side = sIn → n < ring)) (z_if (b := decide (side = sIn)) (yt_test (K := K) (yd_op (by walk_at "y") yd_str (rd_eqS (by rcases hs' with rfl | rfl <;> decide +kernel) (by decide +kernel)))) (fun c => ?_) fun c => ?_) fun wh H5 hwh hm => ?_
  · refine zv_to (zi_op (K := K) (zi_pure (K := K) yd_int) (zi_draw (by rfl) (zi_pure (K := K) (by walk_at "y")) (fun n e => by subst e; omega)) (fun a b ha hb => rd_add)) ?_
    rintro _ ⟨_, rfl, a, b, rfl, ⟨n, rfl, hb0, hb1⟩, rfl⟩
    exact ⟨_, rfl, by omega, by omega, fun _ => by omega⟩
  · refine zv_to (zi_op (K := K) (zi_pure (K := K) yd_int) (zi_draw (by rfl) (zi_pure (K := K) (by walk_at "y")) (fun n e => by subst e; omega)) (fun a b ha hb => rd_add)) ?_
    rintro _ ⟨_, rfl, a, b, rfl, ⟨n, rfl, hb0, hb1⟩, rfl⟩
    exact ⟨_, rfl, by omega, by omega, fun z => absurd z (of_decide_eq_false c)⟩
  · obtain ⟨w2, w150, hin⟩ := hwh
    refine r_val (K := K) (d := gear ring wh side) (by walk_at "y") fun v H6 e6 d6 => ?_
    have hm := hm.step e6
    refine k v ring wh side H6 ⟨q0, q1, w2, w150, hs'.imp (fun e => ⟨e, hin e⟩) id⟩ (fun a o n1 n2 h => hm.ex _ _ (by rw [msk_at n1 n2]; exact h)) hm.dr (dp_msk hm.dr (by simp [noLst, noLsts]) d6)
end

/-! ### the numbers of a gear -/
structure Gnum (N w a b g L : Int) : Prop where
  en : N = g * a
  ew : w = g * b
  l : L = a * w
  l2 : L = b * N
  a0 : 0 < a
  b0 : 0 < b
  g0 : 0 < g
theorem gnum {N w : Int} (h1 : 0 < N) (h2 : 0 < w) : Gnum N w (petI N w) (rndI N w) (gcI N w) (lenI N w) := by
  have g0 := gcI_pos (a := N) (b := w) h1
  have en : gcI N w * petI N w = N := Int.mul_ediv_cancel' (Int.gcd_dvd_left ..)
  have ew : gcI N w * rndI N w = w := Int.mul_ediv_cancel' (Int.gcd_dvd_right ..)
  have a0 : 0 < petI N w := Int.pos_of_mul_pos_right (by rw [en]; exact h1) g0
  have b0 : 0 < rndI N w := Int.pos_of_mul_pos_right (by rw [ew]; exact h2) g0
  have l : lenI N w = petI N w * w := by
    have e : N * w = gcI N w * (petI N w * w) := by rw [← Int.mul_assoc, en]
    unfold lenI
    rw [e]
    exact Int.mul_ediv_cancel_left _ (by omega)
  refine ⟨en.symm, ew.symm, l, ?_, a0, b0, g0⟩
  rw [l]
  calc petI N w * w = petI N w * (gcI N w * rndI N w) := by rw [ew]
    _ = rndI N w * (gcI N w * petI N w) := by rw [Int.mul_left_comm, Int.mul_comm (petI N w), Int.mul_left_comm]
    _ = rndI N w * N := by rw [en]
theorem rollL_len {N w : Int} (h1 : 0 < N) (h2 : 0 < w) : (rollL N w : Int) = lenI N w := by
  obtain ⟨n, rfl⟩ := Int.eq_ofNat_of_zero_le (Int.le_of_lt h1)
  obtain ⟨m, rfl⟩ := Int.eq_ofNat_of_zero_le (Int.le_of_lt h2)
  show ((Nat.lcm n m : Nat) : Int) = ((n : Int) * m) / ((Nat.gcd n m : Nat) : Int)
  unfold Nat.lcm
  rw [Int.natCast_ediv, Int.natCast_mul]
theorem count_z {w : Int} {L : Nat} {k : Nat} (hw : 0 < w) (e : L = k * w.toNat) {g : Nat → Dt} {f : Nat → Bool} (hf : ∀ i, f i = decide (((i : Nat) : Int) % w = 0)) : (kept L f g).length = k := by
  rw [kept_count, e]
  have : (List.range (k * w.toNat)).countP f = (List.range (k * w.toNat)).countP fun i => decide (i % w.toNat = 0) := by
    congr 1
    funext i
    rw [hf]
    refine decide_eq_decide.mpr ?_
    rw [zero_iff hw]
    exact Nat.dvd_iff_mod_eq_zero
  rw [this]
  exact count_mod _ (by omega) k
theorem gcI_comm {a b : Int} : gcI a b = gcI b a := by
  unfold gcI
  rw [Int.gcd_comm]
theorem gcI_mul {a b c : Int} (h : 0 < c) : gcI (a * c) (b * c) = gcI a b * c := by
  unfold gcI
  rw [Int.gcd_mul_right, Int.natCast_mul]
  have : ((c.natAbs : Nat) : Int) = c := by omega
  rw [this]
theorem pet_mul {N w c : Int} (h : 0 < c) : petI (N * c) (w * c) = petI N w := by
  unfold petI
  rw [gcI_mul h]
  exact Int.mul_ediv_mul_of_pos_left _ _ h
theorem rnd_mul {N w c : Int} (h : 0 < c) : rndI (N * c) (w * c) = rndI N w := by
  unfold rndI
  rw [gcI_mul h]
  exact Int.mul_ediv_mul_of_pos_left _ _ h
theorem len_mul {N w c : Int} (h1 : 0 < N) (h2 : 0 < w) (h : 0 < c) : lenI (N * c) (w * c) = lenI N w * c := by
  rw [(gnum (N := N * c) (w := w * c) (Int.mul_pos h1 h) (Int.mul_pos h2 h)).l, pet_mul h, (gnum h1 h2).l, Int.mul_assoc]
theorem pet_sw {N w : Int} : petI w N = rndI N w := by
  unfold petI rndI
  rw [gcI_comm]
theorem rnd_sw {N w : Int} : rndI w N = petI N w := by
  unfold petI rndI
  rw [gcI_comm]
theorem len_sw {N w : Int} : lenI w N = lenI N w := by
  unfold lenI
  rw [gcI_comm, Int.mul_comm]
theorem plain_iff {N w : Int} (h1 : 0 < N) (h2 : 0 < w) : gcI N w = 1 ↔ petI N w = N := by
  have q := gnum h1 h2
  constructor
  · intro h
    have := q.en
    rw [h, Int.one_mul] at this
    exact this.symm
  · intro h
    have e := q.en
    rw [h] at e
    have : 1 * N = gcI N w * N := by rw [Int.one_mul]; exact e
    exact (Int.eq_of_mul_eq_mul_right (by omega) this).symm
theorem turn_top {N w : Int} {s : Str} (h1 : 0 < N) (h2 : 0 < w) : turnI N w s * N * w = if s = sIn then lenI N w * N - lenI N w * w else lenI N w * N + lenI N w * w := by
  have q := gnum h1 h2
  have e1 : petI N w * N * w = lenI N w * N := by rw [q.l, Int.mul_right_comm]
  have e2 : rndI N w * N * w = lenI N w * w := by rw [← q.l2]
  unfold turnI
  split
  · rw [Int.sub_mul, Int.sub_mul, e1, e2]
  · rw [Int.add_mul, Int.add_mul, e1, e2]
theorem pet_le {N w : Int} (h1 : 0 < N) : petI N w ≤ N := by
  unfold petI
  exact Int.ediv_le_self _ (by omega)
theorem rnd_le {N w : Int} (h1 : 0 < w) : rndI N w ≤ w := by
  unfold rndI
  exact Int.ediv_le_self _ (by omega)
theorem turn_pos {N w : Int} {s : Str} (g : Gok N w s) : 0 < turnI N w s := by
  have := g.n3
  have := g.w2
  have q := gnum (N := N) (w := w) (by omega) (by omega)
  have a0 := q.a0
  have b0 := q.b0
  unfold turnI
  rcases g.side with ⟨rfl, h⟩ | rfl
  · rw [if_pos rfl]
    have e1 := q.en
    have e2 := q.ew
    have : gcI N w * rndI N w < gcI N w * petI N w := by rw [← e1, ← e2]; exact h
    have := Int.lt_of_mul_lt_mul_left this (Int.le_of_lt q.g0)
    omega
  · rw [if_neg (by decide +kernel)]
    omega

/-! ### wheelcurves/contacts.py: fractions, directions -/
def lowP (t b : Int) : Int := t % b / gcI (t % b) b
def lowQ (t b : Int) : Int := b / gcI (t % b) b
abbrev low (t b : Int) : Dt := .tuple [.int (lowP t b), .int (lowQ t b)]
/-- above and below, over their common part -/
theorem low_parts {t b : Int} (h : 0 < b) : 0 < lowQ t b ∧ lowQ t b ≤ b ∧ ∃ m, lowP t b * b = t * lowQ t b + m * (b * lowQ t b) := by
  have g0 : 0 < gcI (t % b) b := by
    rw [gcI_comm]
    exact gcI_pos h
  have e1 : gcI (t % b) b * lowP t b = t % b := Int.mul_ediv_cancel' (Int.gcd_dvd_left ..)
  have e2 : gcI (t % b) b * lowQ t b = b := Int.mul_ediv_cancel' (Int.gcd_dvd_right ..)
  have q0 : 0 < lowQ t b := Int.pos_of_mul_pos_right (by rw [e2]; exact h) g0
  refine ⟨q0, Int.ediv_le_self _ (by omega), -(t / b), ?_⟩
  have e3 := Int.emod_add_mul_ediv t b
  generalize gcI (t % b) b = g at *
  generalize lowP t b = p at *
  generalize lowQ t b = q at *
  generalize t / b = z at *
  have : p * b = (t % b) * q := by rw [← e1, ← e2]; grind
  rw [this]
  have : t % b = t - b * z := by omega
  rw [this]
  grind
theorem low_scale {t b c : Int} (hc : 0 < c) : low (t * c) (b * c) = low t b := by
  have e1 : (t * c) % (b * c) = t % b * c := by rw [Int.mul_comm t c, Int.mul_comm b c, Int.mul_emod_mul_of_pos _ _ hc, Int.mul_comm]
  unfold low lowP lowQ
  rw [e1, gcI_mul hc, Int.mul_ediv_mul_of_pos_left _ _ hc, Int.mul_ediv_mul_of_pos_left _ _ hc]
theorem low_add {t b m : Int} : low (t + b * m) b = low t b := by
  unfold low lowP lowQ
  rw [Int.add_mul_emod_self_left]
theorem low_eq {t b t' b' m : Int} (h : 0 < b) (h' : 0 < b') (e : t * b' = t' * b + m * (b * b')) : low t b = low t' b' := by
  rw [← low_scale (t := t) (b := b) h', e, show t' * b + m * (b * b') = t' * b + (b * b') * m by rw [Int.mul_comm m], low_add, Int.mul_comm b b', low_scale h]
abbrev st_lowest : Stmt := topS 20
abbrev N_lowest : List Str := ["top", "below", "divisor"]
theorem sc_lowest : FnScope N_lowest ["top", "below"] (defScope st_lowest) := ⟨rfl, rfl, rfl, by decide +kernel, rfl, by decide +kernel, by decide +kernel⟩
abbrev st_ring_tooth : Stmt := topS 21
abbrev N_ring_tooth : List Str := ["gear", "start", "step"]
theorem sc_ring_tooth : FnScope N_ring_tooth ["gear", "start", "step"] (defScope st_ring_tooth) := ⟨rfl, rfl, rfl, by decide +kernel, rfl, by decide +kernel, by decide +kernel⟩
abbrev st_centre : Stmt := topS 22
abbrev N_centre : List Str := ["gear", "start", "step"]
theorem sc_centre : FnScope N_centre ["gear", "start", "step"] (defScope st_centre) := ⟨rfl, rfl, rfl, by decide +kernel, rfl, by decide +kernel, by decide +kernel⟩
abbrev st_mark_direction : Stmt := topS 23
abbrev N_mark_direction : List Str := ["gear", "start", "step", "whole"]
theorem sc_mark_direction : FnScope N_mark_direction ["gear", "start", "step"] (defScope st_mark_direction) := ⟨rfl, rfl, rfl, by decide +kernel, rfl, by decide +kernel, by decide +kernel⟩
abbrev st_tip_at : Stmt := topS 25
abbrev N_tip_at : List Str := ["gear", "start", "number"]
theorem sc_tip_at : FnScope N_tip_at ["gear", "start", "number"] (defScope st_tip_at) := ⟨rfl, rfl, rfl, by decide +kernel, rfl, by decide +kernel, by decide +kernel⟩
def F_lowest (ds : List Dt) (r : Res) : Prop := ∃ t b, ds = [.int t, .int b] ∧ 0 < b ∧ b < 1073741824 ∧ r = .val (low t b)
theorem len_lowest : ∀ ds r, F_lowest ds r → ds.length = 2 := fun _ _ ⟨_, _, e, _⟩ => e ▸ rfl
theorem f_lowest {t b : Int} (h : 0 < b) (h' : b < 1073741824) : F_lowest [.int t, .int b] (.val (low t b)) := ⟨t, b, rfl, h, h', rfl⟩
/-- gear, start -/
def FGS (z : Int → Int → Str → Int → Res → Prop) (ds : List Dt) (r : Res) : Prop := ∃ d e, ds = [d, e] ∧ Gf (fun N w s => Nf "BadTooth" 0 (N - 1) (z N w s) e) d r
/-- gear, start, step -/
def FGSS (z : Int → Int → Str → Int → Int → Res → Prop) (ds : List Dt) (r : Res) : Prop := ∃ d e f, ds = [d, e, f] ∧ Gf (fun N w s => Nf "BadTooth" 0 (N - 1) (fun st => Nf "BadNumber" 0 1000000 (z N w s st) f) e) d r
/-- gear, start, arcs -/
def FGSA (z : Int → Int → Str → Int → Int → Res → Prop) (ds : List Dt) (r : Res) : Prop := ∃ d e f, ds = [d, e, f] ∧ Gf (fun N w s => Nf "BadTooth" 0 (N - 1) (fun st => Nf "BadNumber" 0 150 (z N w s st) f) e) d r
/-- gear, start, tooth -/
def FGST (z : Int → Int → Str → Int → Int → Res → Prop) (ds : List Dt) (r : Res) : Prop := ∃ d e f, ds = [d, e, f] ∧ Gf (fun N w s => Nf "BadTooth" 0 (N - 1) (fun st => Nf "BadTooth" 0 (N - 1) (z N w s st) f) e) d r
theorem FGS.len {z : Int → Int → Str → Int → Res → Prop} : ∀ ds r, FGS z ds r → ds.length = 2 := fun _ _ ⟨_, _, e, _⟩ => e ▸ rfl
theorem FGSS.len {z : Int → Int → Str → Int → Int → Res → Prop} : ∀ ds r, FGSS z ds r → ds.length = 3 := fun _ _ ⟨_, _, _, e, _⟩ => e ▸ rfl
theorem FGSA.len {z : Int → Int → Str → Int → Int → Res → Prop} : ∀ ds r, FGSA z ds r → ds.length = 3 := fun _ _ ⟨_, _, _, e, _⟩ => e ▸ rfl
theorem FGST.len {z : Int → Int → Str → Int → Int → Res → Prop} : ∀ ds r, FGST z ds r → ds.length = 3 := fun _ _ ⟨_, _, _, e, _⟩ => e ▸ rfl
section
variable {N w st k : Int} {s : Str} {r : Res}
theorem FGS.ok {z : Int → Int → Str → Int → Res → Prop} (g : Gok N w s) (h0 : 0 ≤ st) (h1 : st < N) (h : z N w s st r) : FGS z [gear N w s, .int st] r := ⟨_, _, rfl, .ok g (.ok h0 (by omega) h)⟩
theorem FGSS.ok {z : Int → Int → Str → Int → Int → Res → Prop} (g : Gok N w s) (h0 : 0 ≤ st) (h1 : st < N) (h2 : 0 ≤ k) (h3 : k ≤ 1000000) (h : z N w s st k r) : FGSS z [gear N w s, .int st, .int k] r := ⟨_, _, _, rfl, .ok g (.ok h0 (by omega) (.ok h2 h3 h))⟩
theorem FGSA.ok {z : Int → Int → Str → Int → Int → Res → Prop} (g : Gok N w s) (h0 : 0 ≤ st) (h1 : st < N) (h2 : 0 ≤ k) (h3 : k ≤ 150) (h : z N w s st k r) : FGSA z [gear N w s, .int st, .int k] r := ⟨_, _, _, rfl, .ok g (.ok h0 (by omega) (.ok h2 h3 h))⟩
theorem FGST.ok {z : Int → Int → Str → Int → Int → Res → Prop} (g : Gok N w s) (h0 : 0 ≤ st) (h1 : st < N) (h2 : 0 ≤ k) (h3 : k < N) (h : z N w s st k r) : FGST z [gear N w s, .int st, .int k] r := ⟨_, _, _, rfl, .ok g (.ok h0 (by omega) (.ok h2 (by omega) h))⟩
end
abbrev F_ring_tooth := FGSS fun N _ _ st k r => r = .val (.int ((st + k) % N))
abbrev F_centre := FGSS fun N _ _ st k r => r = .val (low (st + k) N)
def markX (N w : Int) (s : Str) (st k : Int) : Int := if s = sIn then (st + k) * w - k * N else (st + k) * w * 2 + N * w + 2 * k * N
def markW (N w : Int) (s : Str) : Int := if s = sIn then N * w else 2 * (N * w)
abbrev markI (N w : Int) (s : Str) (st k : Int) : Dt := low (markX N w s st k) (markW N w s)
abbrev F_mark_direction := FGSS fun N w s st k r => r = .val (markI N w s st k)
abbrev F_tip_at := FGSS fun N w _ st k r => r = .val (.int ((st + k * w) % N))
def F_wheel_tooth (ds : List Dt) (r : Res) : Prop := ∃ d f, ds = [d, f] ∧ Gf (fun _ w _ => Nf "BadNumber" 0 1000000 (fun k r => r = .val (.int (k % w))) f) d r
theorem len_ring_tooth : ∀ ds r, F_ring_tooth ds r → ds.length = 3 := FGSS.len
theorem len_centre : ∀ ds r, F_centre ds r → ds.length = 3 := FGSS.len
theorem len_mark_direction : ∀ ds r, F_mark_direction ds r → ds.length = 3 := FGSS.len
theorem len_tip_at : ∀ ds r, F_tip_at ds r → ds.length = 3 := FGSS.len
theorem len_wheel_tooth : ∀ ds r, F_wheel_tooth ds r → ds.length = 2 := fun _ _ ⟨_, _, e, _⟩ => e ▸ rfl
theorem f_wtooth {N w k : Int} {s : Str} (g : Gok N w s) (h2 : 0 ≤ k) (h3 : k ≤ 1000000) : F_wheel_tooth [gear N w s, .int k] (.val (.int (k % w))) := ⟨_, _, rfl, .ok g (.ok h2 h3 rfl)⟩
theorem whole_le {N w : Int} {s : Str} (g : Gok N w s) : 0 < N * w ∧ N * w ≤ 22500 := by
  have := g.n3
  have := g.n150
  have := g.w2
  have := g.w150
  exact ⟨Int.mul_pos (by omega) (by omega), Int.mul_le_mul (show N ≤ 150 by omega) (show w ≤ 150 by omega) (by omega) (by omega)⟩
section
variable {P : Program} {w : World} {K : Fg} {mg : Str → Option Value} {base : Heap}
theorem ok_lowest (Z : Df K mg "lowest" st_lowest) (c_common : Cal P w K mg base "common" ["one", "other"] 1 (spF K F_common)) : Cal P w K mg base "lowest" ["top", "below"] 2 (spF K F_lowest) := by
  refine Z.calF sc_lowest (fun _ _ _ _ _ _ us hl => match us, hl with | [_, _], _ => rfl) len_lowest (fun f cdv A outer s H vs Q E ds r hr hd hf hk => ?_)
  refine ⟨_, (pss_cons (ps_set (i := 0) sc_lowest.nd rfl (.inl rfl) (pe_op op_mod (pv 0) (pv 1)))
    (pss_cons (ps_set (i := 2) sc_lowest.nd rfl (.inl rfl) (pe_cal c_common (hr.mono (by decide)) px (pa_cons (pv 0) (pa_cons (pv 1) pa_nil))))
    (pss_one (ps_ret (pe_tup (pa_cons (pe_op op_fdiv (pv 0) (pv 2)) (pa_cons (pe_op op_fdiv (pv 1) (pv 2)) pa_nil))))))), ?_⟩
  try dsimp only [cxOf]
  obtain ⟨t, b, rfl, hb, hb2, rfl⟩ := hf
  obtain ⟨v0, r0, rfl, h0, hd⟩ := dps_cons hd
  obtain ⟨v1, r1, rfl, h1, hd⟩ := dps_cons hd
  obtain rfl := dps_nil hd
  refine a_int (K := K) (by walk_at "y") fun H1 e1 => ?_
  have t0 := Int.emod_nonneg t (show b ≠ 0 by omega)
  refine a_int (K := K) (n := gcI (t % b) b) (yd_call (by walk_at "y") (f_common t0 (by omega))) fun H2 e2 => ?_
  have g0 : 0 < gcI (t % b) b := by
    rw [gcI_comm]
    exact gcI_pos hb
  have g1 := gcI_leR (a := t % b) hb
  exact r_go (show Yd K _ _ _ (.tuple [.int (t % b / gcI (t % b) b), .int (b / gcI (t % b) b)]) by walk_at "y") (Res.mono (e1.trans e2) hk)
theorem ok_ring_tooth (Z : Df K mg "ring_tooth" st_ring_tooth) (c_check_gear : Cal P w K mg base "check_gear" ["value"] 3 (spF K F_check_gear)) (c_check_tooth : Cal P w K mg base "check_tooth" ["gear", "value"] 2 (spF K F_check_tooth)) (c_check_step : Cal P w K mg base "check_step" ["value"] 2 (spF K F_check_step)) : Cal P w K mg base "ring_tooth" ["gear", "start", "step"] 4 (spF K F_ring_tooth) := by
  refine Z.calF sc_ring_tooth (fun _ _ _ _ _ _ us hl => match us, hl with | [_, _, _], _ => rfl) len_ring_tooth (fun f cdv A outer s H vs Q E ds r hr hd hf hk => ?_)
  refine ⟨_, (pss_cons (ps_expr (pe_cal c_check_gear (hr.mono (by decide)) px (pa_cons (pv 0) pa_nil)))
    (pss_cons (ps_expr (pe_cal c_check_tooth (hr.mono (by decide)) px (pa_cons (pv 0) (pa_cons (pv 1) pa_nil))))
    (pss_cons (ps_expr (pe_cal c_check_step (hr.mono (by decide)) px (pa_cons (pv 2) pa_nil)))
    (pss_one (ps_ret (pe_op op_mod (pe_op op_add (pv 1) (pv 2)) (pe_ix ix_seq (pv 0) pe_int (fun _ _ => rfl)))))))), ?_⟩
  try dsimp only [cxOf]
  obtain ⟨d, e, f, rfl, hf⟩ := hf
  obtain ⟨v0, r0, rfl, h0, hd⟩ := dps_cons hd
  obtain ⟨v1, r1, rfl, h1, hd⟩ := dps_cons hd
  obtain ⟨v2, r2, rfl, h2, hd⟩ := dps_cons hd
  obtain rfl := dps_nil hd
  refine st_gear hf hk h0 rfl fun N w' s' ed g hf2 H1 e1 => ?_
  subst ed
  refine st_tooth g hf2 (Res.mono e1 hk) (dp_ex e1 h0) rfl (dp_ex e1 h1) rfl fun a ed a0 a1 hf3 H2 e2 => ?_
  subst ed
  refine st_step hf3 (Res.mono (e1.trans e2) hk) (dp_ex (e1.trans e2) h2) rfl fun b ed b0 b1 q H3 e3 => ?_
  subst ed q
  have := g.n3
  exact r_go (by walk_at "y") (Res.mono ((e1.trans e2).trans e3) hk)
theorem ok_centre (Z : Df K mg "centre" st_centre) (c_check_gear : Cal P w K mg base "check_gear" ["value"] 3 (spF K F_check_gear)) (c_check_tooth : Cal P w K mg base "check_tooth" ["gear", "value"] 2 (spF K F_check_tooth)) (c_check_step : Cal P w K mg base "check_step" ["value"] 2 (spF K F_check_step)) (c_lowest : Cal P w K mg base "lowest" ["top", "below"] 2 (spF K F_lowest)) : Cal P w K mg base "centre" ["gear", "start", "step"] 4 (spF K F_centre) := by
  refine Z.calF sc_centre (fun _ _ _ _ _ _ us hl => match us, hl with | [_, _, _], _ => rfl) len_centre (fun f cdv A outer s H vs Q E ds r hr hd hf hk => ?_)
  refine ⟨_, (pss_cons (ps_expr (pe_cal c_check_gear (hr.mono (by decide)) px (pa_cons (pv 0) pa_nil)))
    (pss_cons (ps_expr (pe_cal c_check_tooth (hr.mono (by decide)) px (pa_cons (pv 0) (pa_cons (pv 1) pa_nil))))
    (pss_cons (ps_expr (pe_cal c_check_step (hr.mono (by decide)) px (pa_cons (pv 2) pa_nil)))
    (pss_one (ps_ret (pe_cal c_lowest (hr.mono (by decide)) px (pa_cons (pe_op op_add (pv 1) (pv 2)) (pa_cons (pe_ix ix_seq (pv 0) pe_int (fun _ _ => rfl)) pa_nil)))))))), ?_⟩
  try dsimp only [cxOf]
  obtain ⟨d, e, f, rfl, hf⟩ := hf
  obtain ⟨v0, r0, rfl, h0, hd⟩ := dps_cons hd
  obtain ⟨v1, r1, rfl, h1, hd⟩ := dps_cons hd
  obtain ⟨v2, r2, rfl, h2, hd⟩ := dps_cons hd
  obtain rfl := dps_nil hd
  refine st_gear hf hk h0 rfl fun N w' s' ed g hf2 H1 e1 => ?_
  subst ed
  refine st_tooth g hf2 (Res.mono e1 hk) (dp_ex e1 h0) rfl (dp_ex e1 h1) rfl fun a ed a0 a1 hf3 H2 e2 => ?_
  subst ed
  refine st_step hf3 (Res.mono (e1.trans e2) hk) (dp_ex (e1.trans e2) h2) rfl fun b ed b0 b1 q H3 e3 => ?_
  subst ed q
  have := g.n3
  have := g.n150
  exact r_go (yd_call (by walk_at "y") (f_lowest (by omega) (by omega))) (Res.mono ((e1.trans e2).trans e3) hk)
theorem ok_tip_at (Z : Df K mg "tip_at" st_tip_at) (c_check_gear : Cal P w K mg base "check_gear" ["value"] 3 (spF K F_check_gear)) (c_check_tooth : Cal P w K mg base "check_tooth" ["gear", "value"] 2 (spF K F_check_tooth)) (c_is_int : Cal P w K mg base "is_int" ["value", "low", "high"] 1 (spF K F_is_int)) (e_BadNumber : ExF K mg "BadNumber") : Cal P w K mg base "tip_at" ["gear", "start", "number"] 4 (spF K F_tip_at) := by
  refine Z.calF sc_tip_at (fun _ _ _ _ _ _ us hl => match us, hl with | [_, _, _], _ => rfl) len_tip_at (fun f cdv A outer s H vs Q E ds r hr hd hf hk => ?_)
  refine ⟨_, (pss_cons (ps_expr (pe_cal c_check_gear (hr.mono (by decide)) px (pa_cons (pv 0) pa_nil)))
    (pss_cons (ps_expr (pe_cal c_check_tooth (hr.mono (by decide)) px (pa_cons (pv 0) (pa_cons (pv 1) pa_nil))))
    (pss_cons (ps_if (pt_not (pt_val (pe_cal c_is_int (hr.mono (by decide)) px (pa_cons (pv 2) (pa_cons pe_int (pa_cons pe_int pa_nil)))))) (pss_one (ps_rz e_BadNumber)) pss_nil)
    (pss_one (ps_ret (pe_op op_mod (pe_op op_add (pv 1) (pe_op op_mul (pv 2) (pe_ix ix_seq (pv 0) pe_int (fun _ _ => rfl)))) (pe_ix ix_seq (pv 0) pe_int (fun _ _ => rfl)))))))), ?_⟩
  try dsimp only [cxOf]
  obtain ⟨d, e, f, rfl, hf⟩ := hf
  obtain ⟨v0, r0, rfl, h0, hd⟩ := dps_cons hd
  obtain ⟨v1, r1, rfl, h1, hd⟩ := dps_cons hd
  obtain ⟨v2, r2, rfl, h2, hd⟩ := dps_cons hd
  obtain rfl := dps_nil hd
  refine st_gear hf hk h0 rfl fun N w' s' ed g hf2 H1 e1 => ?_
  subst ed
  refine st_tooth g hf2 (Res.mono e1 hk) (dp_ex e1 h0) rfl (dp_ex e1 h1) rfl fun a ed a0 a1 hf3 H2 e2 => ?_
  subst ed
  have := g.n3
  have := g.w2
  have := g.w150
  rcases hf3 with ⟨q, rfl⟩ | ⟨b, rfl, b0, b1, rfl⟩
  · refine i_yes (yt_is (yt_not (yt_B (yd_call (ya_cons (by walk_at "y") (ya_cons yd_int (ya_cons yd_int ya_nil))) f_is_int))) (by rw [q] <;> rfl)) fun H3 e3 => ?_
    exact hk H3 ((e1.trans e2).trans e3)
  · refine i_no (yt_is (yt_not (yt_B (yd_call (ya_cons (by walk_at "y") (ya_cons yd_int (ya_cons yd_int ya_nil))) f_is_int))) (by rw [isIntD_iff.mpr ⟨b, rfl, b0, b1⟩] <;> rfl)) fun H3 e3 => ?_
    exact r_go (by walk_at "y") (Res.mono ((e1.trans e2).trans e3) hk)
theorem ok_mark_direction (Z : Df K mg "mark_direction" st_mark_direction) (c_check_gear : Cal P w K mg base "check_gear" ["value"] 3 (spF K F_check_gear)) (c_check_tooth : Cal P w K mg base "check_tooth" ["gear", "value"] 2 (spF K F_check_tooth)) (c_check_step : Cal P w K mg base "check_step" ["value"] 2 (spF K F_check_step)) (c_lowest : Cal P w K mg base "lowest" ["top", "below"] 2 (spF K F_lowest)) : Cal P w K mg base "mark_direction" ["gear", "start", "step"] 4 (spF K F_mark_direction) := by
  refine Z.calF sc_mark_direction (fun _ _ _ _ _ _ us hl => match us, hl with | [_, _, _], _ => rfl) len_mark_direction (fun f cdv A outer s H vs Q E ds r hr hd hf hk => ?_)
  refine ⟨_, (pss_cons (ps_expr (pe_cal c_check_gear (hr.mono (by decide)) px (pa_cons (pv 0) pa_nil)))
    (pss_cons (ps_expr (pe_cal c_check_tooth (hr.mono (by decide)) px (pa_cons (pv 0) (pa_cons (pv 1) pa_nil))))
    (pss_cons (ps_expr (pe_cal c_check_step (hr.mono (by decide)) px (pa_cons (pv 2) pa_nil)))
    (pss_cons (ps_set (i := 3) sc_mark_direction.nd rfl (.inl rfl) (pe_op op_mul (pe_ix ix_seq (pv 0) pe_int (fun _ _ => rfl)) (pe_ix ix_seq (pv 0) pe_int (fun _ _ => rfl))))
    (pss_cons (ps_if (pt_cmpR (op_eqD hr.units) (pe_ix ix_seq (pv 0) pe_int (fun _ _ => rfl)) pe_str (nomark _)) (pss_one (ps_ret (pe_cal c_lowest (hr.mono (by decide)) px (pa_cons (pe_op op_sub (pe_op op_mul (pe_op op_add (pv 1) (pv 2)) (pe_ix ix_seq (pv 0) pe_int (fun _ _ => rfl))) (pe_op op_mul (pv 2) (pe_ix ix_seq (pv 0) pe_int (fun _ _ => rfl)))) (pa_cons (pv 3) pa_nil))))) pss_nil)
    (pss_one (ps_ret (pe_cal c_lowest (hr.mono (by decide)) px (pa_cons (pe_op op_add (pe_op op_add (pe_op op_mul (pe_op op_mul (pe_op op_add (pv 1) (pv 2)) (pe_ix ix_seq (pv 0) pe_int (fun _ _ => rfl))) pe_int) (pv 3)) (pe_op op_mul (pe_op op_mul pe_int (pv 2)) (pe_ix ix_seq (pv 0) pe_int (fun _ _ => rfl)))) (pa_cons (pe_op op_mul pe_int (pv 3)) pa_nil)))))))))), ?_⟩
  try dsimp only [cxOf]
  obtain ⟨d, e, f, rfl, hf⟩ := hf
  obtain ⟨v0, r0, rfl, h0, hd⟩ := dps_cons hd
  obtain ⟨v1, r1, rfl, h1, hd⟩ := dps_cons hd
  obtain ⟨v2, r2, rfl, h2, hd⟩ := dps_cons hd
  obtain rfl := dps_nil hd
  refine st_gear hf hk h0 rfl fun N w' s' ed g hf2 H1 e1 => ?_
  subst ed
  refine st_tooth g hf2 (Res.mono e1 hk) (dp_ex e1 h0) rfl (dp_ex e1 h1) rfl fun a ed a0 a1 hf3 H2 e2 => ?_
  subst ed
  refine st_step hf3 (Res.mono (e1.trans e2) hk) (dp_ex (e1.trans e2) h2) rfl fun b ed b0 b1 q H3 e3 => ?_
  subst ed q
  have := g.n3
  have := g.n150
  have := g.w2
  have := g.w150
  have wl := whole_le g
  refine a_int (K := K) (n := N * w') (by walk_at "y") fun H4 e4 => ?_
  refine i_when (yt_test (yd_op (by walk_at "y") (by walk_at "y") (rd_eqS (side_ok g) (by decide +kernel)))) (fun q H5 e5 => ?_) fun q H5 e5 => ?_
  · refine r_go (Yd.is (yd_call (by walk_at "y") (f_lowest (by omega) (by omega))) ?_) (Res.mono ((((e1.trans e2).trans e3).trans e4).trans e5) hk)
    unfold markI markX markW
    rw [if_pos (of_decide_eq_true q), if_pos (of_decide_eq_true q)]
  · refine r_go (Yd.is (yd_call (by walk_at "y") (f_lowest (by omega) (by omega))) ?_) (Res.mono ((((e1.trans e2).trans e3).trans e4).trans e5) hk)
    unfold markI markX markW
    rw [if_neg (of_decide_eq_false q), if_neg (of_decide_eq_false q)]
end
theorem f_ring {N w st k : Int} {s : Str} (g : Gok N w s) (h0 : 0 ≤ st) (h1 : st < N) (h2 : 0 ≤ k) (h3 : k ≤ 1000000) : F_ring_tooth [gear N w s, .int st, .int k] (.val (.int ((st + k) % N))) := FGSS.ok g h0 h1 h2 h3 rfl
theorem f_centre {N w st k : Int} {s : Str} (g : Gok N w s) (h0 : 0 ≤ st) (h1 : st < N) (h2 : 0 ≤ k) (h3 : k ≤ 1000000) : F_centre [gear N w s, .int st, .int k] (.val (low (st + k) N)) := FGSS.ok g h0 h1 h2 h3 rfl
theorem f_mark {N w st k : Int} {s : Str} (g : Gok N w s) (h0 : 0 ≤ st) (h1 : st < N) (h2 : 0 ≤ k) (h3 : k ≤ 1000000) : F_mark_direction [gear N w s, .int st, .int k] (.val (markI N w s st k)) := FGSS.ok g h0 h1 h2 h3 rfl
theorem f_tipat {N w st k : Int} {s : Str} (g : Gok N w s) (h0 : 0 ≤ st) (h1 : st < N) (h2 : 0 ≤ k) (h3 : k ≤ 1000000) : F_tip_at [gear N w s, .int st, .int k] (.val (.int ((st + k * w) % N))) := FGSS.ok g h0 h1 h2 h3 rfl
local macro_rules | `(tactic| walk_at "f") => `(tactic| first
  | with_reducible exact f_ring (by assumption) (by omega) (by omega) (by omega) (by omega)
  | with_reducible exact f_centre (by assumption) (by omega) (by omega) (by omega) (by omega)
  | with_reducible exact f_mark (by assumption) (by omega) (by omega) (by omega) (by omega)
  | with_reducible exact f_tipat (by assumption) (by omega) (by omega) (by omega) (by omega)
  | with_reducible exact f_wtooth (by assumption) (by omega) (by omega))

/-! ### the law's fractions -/
abbrev st__law_low : Stmt := topS 30
abbrev N__law_low : List Str := ["_law_top", "_law_under", "_law_one", "_law_other"]
theorem sc__law_low : FnScope N__law_low ["_law_top", "_law_under"] (defScope st__law_low) := ⟨rfl, rfl, rfl, by decide +kernel, rfl, by decide +kernel, by decide +kernel⟩
def F__law_low (ds : List Dt) (r : Res) : Prop := ∃ t b, ds = [.int t, .int b] ∧ 0 < b ∧ b < 1073741824 ∧ r = .val (low t b)
theorem len__law_low : ∀ ds r, F__law_low ds r → ds.length = 2 := fun _ _ ⟨_, _, e, _⟩ => e ▸ rfl
theorem f_low {t b : Int} (h : 0 < b) (h' : b < 1073741824) : F__law_low [.int t, .int b] (.val (low t b)) := ⟨t, b, rfl, h, h', rfl⟩
section
variable {P : Program} {w : World} {K : Fg} {mg : Str → Option Value} {base : Heap}
theorem ok__law_low (Z : Df K mg "_law_low" st__law_low) : Cal P w K mg base "_law_low" ["_law_top", "_law_under"] 1 (spF K F__law_low) := by
  refine Z.calF sc__law_low (fun _ _ _ _ _ _ us hl => match us, hl with | [_, _], _ => rfl) len__law_low (fun f cdv A outer s H vs Q E ds r hr hd hf hk => ?_)
  refine ⟨_, (pss_cons (ps_set (i := 0) sc__law_low.nd rfl (.inl rfl) (pe_op op_mod (pv 0) (pv 1)))
    (pss_cons (ps_par (i := 2) (j := 3) rfl sc__law_low.nd rfl rfl (by decide) rfl rfl (pa_cons (pv 0) (pa_cons (pv 1) pa_nil)) rfl)
    (pss_cons (ps_while (passes_of rfl) (pt_cmpR (op_neD hr.units) (pv 3) pe_int (nomark _)) (pss_one (ps_par (i := 2) (j := 3) rfl sc__law_low.nd rfl rfl (by decide) rfl rfl (pa_cons (pv 3) (pa_cons (pe_op op_mod (pv 2) (pv 3)) pa_nil)) rfl)))
    (pss_one (ps_ret (pe_tup (pa_cons (pe_op op_fdiv (pv 0) (pv 2)) (pa_cons (pe_op op_fdiv (pv 1) (pv 2)) pa_nil)))))))), ?_⟩
  try dsimp only [cxOf]
  obtain ⟨t, b, rfl, hb, hb2, rfl⟩ := hf
  obtain ⟨v0, r0, rfl, h0, hd⟩ := dps_cons hd
  obtain ⟨v1, r1, rfl, h1, hd⟩ := dps_cons hd
  obtain rfl := dps_nil hd
  obtain rfl := dp_int h0
  obtain rfl := dp_int h1
  refine a_int (K := K) (n := t % b) (by walk_at "y") fun H1 e1 => ?_
  have t0 := Int.emod_nonneg t (show b ≠ 0 by omega)
  have g0 : 0 < gcI (t % b) b := by
    rw [gcI_comm]
    exact gcI_pos hb
  have g1 := gcI_leR (a := t % b) hb
  refine a_parI (K := K) (x := t % b) (y := b) (by walk_at "y") fun H2 e2 => ?_
  refine w_while (fun m σ' H' => ∃ x y : Int, σ' = [some (.int (t % b)), some (.int b), some (.int x), some (.int y)] ∧ 0 ≤ x ∧ 0 ≤ y ∧ m = y.toNat ∧ gcI x y = gcI (t % b) b ∧ Ex H H') b.toNat ⟨t % b, b, rfl, t0, by omega, rfl, rfl, e1.trans e2⟩ ?_
  rintro m σ' H' ⟨x, y, rfl, hx, hy, rfl, hg, e⟩
  refine ⟨decide (y ≠ 0), yt_test (K := K) (by walk_at "y"), fun q H1 e1 => ?_, fun q H1 e1 => ?_⟩
  · have hy' : 0 < y := by have := of_decide_eq_true q; omega
    refine z_parI (K := K) (by walk_at "y") fun H2 e2 => ?_
    have l := Int.emod_lt_of_pos x hy'
    have l0 := Int.emod_nonneg x (show y ≠ 0 by omega)
    refine ⟨(x % y).toNat, by omega, y, x % y, rfl, hy, l0, rfl, ?_, (e.trans e1).trans e2⟩
    rw [← hg]
    unfold gcI
    rw [gcd_step hx hy']
  · have hy' : y = 0 := by have := of_decide_eq_false q; omega
    subst hy'
    have hx0 : gcI x 0 = x := by
      unfold gcI
      rw [Int.gcd_zero_right]
      omega
    rw [hx0] at hg
    subst hg
    exact r_go (show Yd K _ _ _ (.tuple [.int (t % b / gcI (t % b) b), .int (b / gcI (t % b) b)]) by walk_at "y") (Res.mono (e.trans e1) hk)
end

/-! ### the law's promise -/
abbrev st_law : Stmt := topS 33
abbrev N_law : List Str := ["_law_script", "_law_draws", "_law_gear_here", "_law_start_here", "_law_step", "_law_size", "_law_now", "_law_then", "_law_whole", "_law_turned", "_law_middle", "_law_k", "_law_at", "_law_due"]
theorem sc_law : FnScope N_law ["_law_script"] (defScope st_law) := ⟨rfl, rfl, rfl, by decide +kernel, rfl, by decide +kernel, by decide +kernel⟩
def spLaw (K : Fg) : Sp := fun vs H Q _ => ∃ (a : Addr) (ns : List Int), vs = [.ref a] ∧ SqL K H a (ns.map V.int) ∧ ns.length ≤ 63 ∧ ∀ H2, Q (.bl true) H2
theorem len_law {K : Fg} : ∀ vs H Q E, spLaw K vs H Q E → vs.length = 1 := fun _ _ _ _ ⟨_, _, e, _⟩ => e ▸ rfl
local macro_rules | `(tactic| walk_at "f") => `(tactic| with_reducible exact F1.ok (by assumption))
theorem lenI_bd {N w : Int} {s : Str} (g : Gok N w s) : 0 < lenI N w ∧ lenI N w ≤ 22500 := by
  have h1 := whole_le g
  have := g.n3
  have := g.w2
  have q := gnum (N := N) (w := w) (by omega) (by omega)
  refine ⟨by rw [q.l]; exact Int.mul_pos q.a0 (by omega), ?_⟩
  have : lenI N w ≤ N * w := Int.ediv_le_self _ (by omega)
  omega

/-! ### directions, plainly -/
def turnT (N w : Int) (s : Str) : Int := if s = sOut then N + w else w - N
section
variable {N w st k : Int} {s : Str}
theorem side2 (g : Gok N w s) : (s = sIn ∧ s ≠ sOut) ∨ (s = sOut ∧ s ≠ sIn) := by
  rcases g.side with ⟨rfl, _⟩ | rfl
  · exact .inl ⟨rfl, by decide +kernel⟩
  · exact .inr ⟨rfl, by decide +kernel⟩
theorem markW_bd (g : Gok N w s) : 0 < markW N w s ∧ markW N w s ≤ 45000 := by
  have := whole_le g
  unfold markW
  split <;> omega
/-- what the cases of the side are -/
theorem mark_cases (g : Gok N w s) : (s = sIn ∧ (∀ a b, markX N w s a b = (a + b) * w - b * N) ∧ markW N w s = N * w ∧ turnT N w s = w - N) ∨
    (s = sOut ∧ (∀ a b, markX N w s a b = (a + b) * w * 2 + N * w + 2 * b * N) ∧ markW N w s = 2 * (N * w) ∧ turnT N w s = N + w) := by
  rcases side2 g with ⟨h, h'⟩ | ⟨h, h'⟩
  · exact .inl ⟨h, fun a b => by unfold markX; rw [if_pos h], by unfold markW; rw [if_pos h], by unfold turnT; rw [if_neg h']⟩
  · exact .inr ⟨h, fun a b => by unfold markX; rw [if_neg h'], by unfold markW; rw [if_neg h'], by unfold turnT; rw [if_pos h]⟩
theorem mark_next (g : Gok N w s) : low (lowP (markX N w s st k) (markW N w s) * (N * w) + turnT N w s * lowQ (markX N w s st k) (markW N w s)) (lowQ (markX N w s st k) (markW N w s) * (N * w)) = markI N w s st (k + 1) := by
  obtain ⟨w0, w1⟩ := markW_bd g
  obtain ⟨v0, v1⟩ := whole_le g
  obtain ⟨q0, q1, m, hm⟩ := low_parts (t := markX N w s st k) w0
  refine low_eq (m := m) (Int.mul_pos q0 v0) w0 ?_
  generalize lowP (markX N w s st k) (markW N w s) = P at *
  generalize lowQ (markX N w s st k) (markW N w s) = Q at *
  rcases mark_cases g with ⟨h, hX, hW, hT⟩ | ⟨h, hX, hW, hT⟩ <;> rw [hX] at hm <;> rw [hX] <;> rw [hW] at hm ⊢ <;> rw [hT] <;> grind
theorem centre_next (h : 0 < N) : low (lowP (st + k) N * N + lowQ (st + k) N) (lowQ (st + k) N * N) = low (st + (k + 1)) N := by
  obtain ⟨q0, q1, m, hm⟩ := low_parts (t := st + k) h
  refine low_eq (m := m) (Int.mul_pos q0 h) h ?_
  generalize lowP (st + k) N = P at *
  generalize lowQ (st + k) N = Q at *
  grind
theorem mark_period (g : Gok N w s) : markI N w s st (k + lenI N w) = markI N w s st k := by
  have := g.n3
  have := g.w2
  have q := gnum (N := N) (w := w) (by omega) (by omega)
  have l := q.l
  have l2 := q.l2
  generalize lenI N w = L at *
  generalize petI N w = a at *
  generalize rndI N w = b at *
  rcases mark_cases g with ⟨h, hX, hW, hT⟩ | ⟨h, hX, hW, hT⟩
  · have e : markX N w s st (k + L) = markX N w s st k + markW N w s * (b - a) := by rw [hX, hX, hW]; grind
    unfold markI
    rw [e, low_add]
  · have e : markX N w s st (k + L) = markX N w s st k + markW N w s * (a + b) := by rw [hX, hX, hW]; grind
    unfold markI
    rw [e, low_add]
theorem centre_period (g : Gok N w s) : low (st + (k + lenI N w)) N = low (st + k) N := by
  have := g.n3
  have := g.w2
  have q := gnum (N := N) (w := w) (by omega) (by omega)
  have l2 := q.l2
  generalize lenI N w = L at *
  have e : st + (k + L) = st + k + N * rndI N w := by rw [l2]; grind
  rw [e, low_add]
theorem low_mod {t b : Int} : low (t % b) b = low t b := by
  have e : t % b = t + b * (-(t / b)) := by
    have := Int.emod_add_mul_ediv t b
    grind
  rw [e, low_add]
theorem mark_tip (g : Gok N w s) (j : Int) : markI N w s st (j * w) = if s = sIn then low (st + j * w) N else low (2 * lowP (st + j * w) N + lowQ (st + j * w) N) (2 * lowQ (st + j * w) N) := by
  have n3 := g.n3
  have w2 := g.w2
  obtain ⟨v0, v1⟩ := whole_le g
  have hN : 0 < N := by omega
  rcases mark_cases g with ⟨h, hX, hW, hT⟩ | ⟨h, hX, hW, hT⟩
  · rw [if_pos h]
    unfold markI
    rw [hX, hW]
    refine low_eq (m := -j) v0 hN ?_
    grind
  · rw [if_neg (by rw [h]; decide +kernel)]
    obtain ⟨q0, q1, m, hm⟩ := low_parts (t := st + j * w) hN
    unfold markI
    rw [hX, hW]
    refine low_eq (m := j - m) (by omega) (by omega) ?_
    generalize lowP (st + j * w) N = P at *
    generalize lowQ (st + j * w) N = Q at *
    grind
theorem mark_moved (g : Gok N w s) : low (lowP (markX N w s st k) (markW N w s) * N + lowQ (markX N w s st k) (markW N w s)) (lowQ (markX N w s st k) (markW N w s) * N) = markI N w s ((st + 1) % N) k := by
  have n3 := g.n3
  obtain ⟨w0, w1⟩ := markW_bd g
  obtain ⟨q0, q1, m, hm⟩ := low_parts (t := markX N w s st k) w0
  have e : (st + 1) % N = st + 1 - N * ((st + 1) / N) := by
    have := Int.emod_add_mul_ediv (st + 1) N
    omega
  generalize (st + 1) / N = z at e
  refine low_eq (m := m + z) (Int.mul_pos q0 (by omega)) w0 ?_
  rw [e]
  generalize lowP (markX N w s st k) (markW N w s) = P at *
  generalize lowQ (markX N w s st k) (markW N w s) = Q at *
  rcases mark_cases g with ⟨h, hX, hW, hT⟩ | ⟨h, hX, hW, hT⟩ <;> rw [hX] at hm <;> rw [hX] <;> rw [hW] at hm ⊢ <;> grind
theorem mark_zero (g : Gok N w s) : markI N w s st 0 = if s = sIn then low st N else low (2 * st + N) (2 * N) := by
  have n3 := g.n3
  have w2 := g.w2
  obtain ⟨v0, v1⟩ := whole_le g
  rcases mark_cases g with ⟨h, hX, hW, hT⟩ | ⟨h, hX, hW, hT⟩
  · rw [if_pos h]
    unfold markI
    rw [hX, hW]
    refine low_eq (m := 0) v0 (by omega) ?_
    grind
  · rw [if_neg (by rw [h]; decide +kernel)]
    unfold markI
    rw [hX, hW]
    refine low_eq (m := 0) (by omega) (by omega) ?_
    grind
theorem turn_abs (g : Gok N w s) : turnI N w s * (N * w) = lenI N w * (turnT N w s).natAbs := by
  have n3 := g.n3
  have w2 := g.w2
  have h := turn_top (N := N) (w := w) (s := s) (by omega) (by omega)
  rw [Int.mul_assoc] at h
  rw [h]
  rcases g.side with ⟨hs, hw⟩ | hs
  · rw [if_pos hs]
    have e : turnT N w s = w - N := by unfold turnT; rw [if_neg (by rw [hs]; decide +kernel)]
    have e2 : ((turnT N w s).natAbs : Int) = N - w := by omega
    rw [e2]
    grind
  · rw [if_neg (by rw [hs]; decide +kernel)]
    have e : turnT N w s = N + w := by unfold turnT; rw [if_pos hs]
    have e2 : ((turnT N w s).natAbs : Int) = N + w := by omega
    rw [e2]
    grind
end

/-! ### the law -/
abbrev st__law_moved : Stmt := topS 32
abbrev N__law_moved : List Str := ["_law_gear_here", "_law_start_here", "_law_step", "_law_now", "_law_size", "_law_whole", "_law_turned", "_law_other", "_law_moved_here"]
theorem sc__law_moved : FnScope N__law_moved ["_law_gear_here", "_law_start_here", "_law_step", "_law_now", "_law_size", "_law_whole", "_law_turned"] (defScope st__law_moved) := ⟨rfl, rfl, rfl, by decide +kernel, rfl, by decide +kernel, by decide +kernel⟩
def F__law_moved (ds : List Dt) (r : Res) : Prop := ∃ N w s st k, ds = [gear N w s, .int st, .int k, markI N w s st k, .int (lenI N w), .int (N * w), .int (turnT N w s)] ∧ Gok N w s ∧ 0 ≤ st ∧ st < N ∧ 0 ≤ k ∧ k ≤ 1000000 ∧ r = .val (.bool true)
theorem len__law_moved : ∀ ds r, F__law_moved ds r → ds.length = 7 := fun _ _ ⟨_, _, _, _, _, e, _⟩ => e ▸ rfl
theorem f_moved {N w st k : Int} {s : Str} (g : Gok N w s) (h0 : 0 ≤ st) (h1 : st < N) (h2 : 0 ≤ k) (h3 : k ≤ 1000000) : F__law_moved [gear N w s, .int st, .int k, markI N w s st k, .int (lenI N w), .int (N * w), .int (turnT N w s)] (.val (.bool true)) := ⟨N, w, s, st, k, rfl, g, h0, h1, h2, h3, rfl⟩
theorem neLow {K : Fg} {a b c d : Int} (h : low a b = low c d) : Rd2 K (rNeD K) (low a b) (low c d) (.bool false) := rd_neP (b := false) (by simp [pl, pls]) (by simp [pl, pls]) (by simp [PyData.depth, PyData.depthAll]) (by simp [PyData.depth, PyData.depthAll]) (by rw [h]; simp)
theorem eqLow {K : Fg} {a b c d : Int} (h : low a b = low c d) : Rd2 K (rEqD K) (low a b) (low c d) (.bool true) := rd_eqP (b := true) (by simp [pl, pls]) (by simp [pl, pls]) (by simp [PyData.depth, PyData.depthAll]) (by simp [PyData.depth, PyData.depthAll]) (by rw [h]; simp)
section
variable {P : Program} {w : World} {K : Fg} {mg : Str → Option Value} {base : Heap}
theorem ok__law_moved (Z : Df K mg "_law_moved" st__law_moved) (c_mark_direction : Cal P w K mg base "mark_direction" ["gear", "start", "step"] 4 (spF K F_mark_direction)) (c__law_low : Cal P w K mg base "_law_low" ["_law_top", "_law_under"] 1 (spF K F__law_low)) (c_ring_tooth : Cal P w K mg base "ring_tooth" ["gear", "start", "step"] 4 (spF K F_ring_tooth)) (c_centre : Cal P w K mg base "centre" ["gear", "start", "step"] 4 (spF K F_centre)) (c_wheel_turns : Cal P w K mg base "wheel_turns" ["gear"] 4 (spF K F_wheel_turns)) (m_abs : mg "abs" = none) : Cal P w K mg base "_law_moved" ["_law_gear_here", "_law_start_here", "_law_step", "_law_now", "_law_size", "_law_whole", "_law_turned"] 5 (spF K F__law_moved) := by
  refine Z.calF sc__law_moved (fun _ _ _ _ _ _ us hl => match us, hl with | [_, _, _, _, _, _, _], _ => rfl) len__law_moved (fun f cdv A outer s H vs Q E ds r hr hd hf hk => ?_)
  refine ⟨_, (pss_cons (ps_set (i := 7) sc__law_moved.nd rfl (.inl rfl) (pe_op op_mod (pe_op op_add (pv 1) pe_int) (pe_ix ix_seq (pv 0) pe_int (fun _ _ => rfl))))
    (pss_cons (ps_set (i := 8) sc__law_moved.nd rfl (.inl rfl) (pe_cal c_mark_direction (hr.mono (by decide)) (passL) (pa_cons (pv 0) (pa_cons (pv 7) (pa_cons (pv 2) pa_nil)))))
    (pss_cons (ps_if (pt_cmpR (op_neD hr.units) (pe_cal c__law_low (hr.mono (by decide)) (passL) (pa_cons (pe_op op_add (pe_op op_mul (pe_ix ix_seq (pv 3) pe_int (fun _ _ => rfl)) (pe_ix ix_seq (pv 0) pe_int (fun _ _ => rfl))) (pe_ix ix_seq (pv 3) pe_int (fun _ _ => rfl))) (pa_cons (pe_op op_mul (pe_ix ix_seq (pv 3) pe_int (fun _ _ => rfl)) (pe_ix ix_seq (pv 0) pe_int (fun _ _ => rfl))) pa_nil))) (pv 8) (nomark _)) (pss_one (ps_ret pe_bl)) pss_nil)
    (pss_cons (ps_if (pt_cmpR (op_neD hr.units) (pe_cal c_ring_tooth (hr.mono (by decide)) (passL) (pa_cons (pv 0) (pa_cons (pv 1) (pa_cons (pv 2) pa_nil)))) (pe_op op_mod (pe_op op_add (pe_cal c_ring_tooth (hr.mono (by decide)) (passL) (pa_cons (pv 0) (pa_cons pe_int (pa_cons (pv 2) pa_nil)))) (pv 1)) (pe_ix ix_seq (pv 0) pe_int (fun _ _ => rfl))) (nomark _)) (pss_one (ps_ret pe_bl)) pss_nil)
    (pss_cons (ps_if (PW.pt (pw_or (pt_cmpR (op_neD hr.units) (pe_cal c_centre (hr.mono (by decide)) (passL) (pa_cons (pv 0) (pa_cons (pv 1) (pa_cons pe_int pa_nil)))) (pe_cal c__law_low (hr.mono (by decide)) (passL) (pa_cons (pv 1) (pa_cons (pe_ix ix_seq (pv 0) pe_int (fun _ _ => rfl)) pa_nil))) (nomark _)) (pw_or1 (pt_cmpR (op_neD hr.units) (pe_op op_mul (pe_cal c_wheel_turns (hr.mono (by decide)) (passL) (pa_cons (pv 0) pa_nil)) (pv 5)) (pe_op op_mul (pv 4) (pe_callB call_abs rfl m_abs (by decide +kernel) (pa_cons (pv 6) pa_nil))) (nomark _))))) (pss_one (ps_ret pe_bl)) pss_nil)
    (pss_one (ps_ret (pe_cmpR (op_eqD hr.units) (pe_cal c_mark_direction (hr.mono (by decide)) (passL) (pa_cons (pv 0) (pa_cons (pv 1) (pa_cons pe_int pa_nil)))) (pe_ifExp (pt_cmpR (op_eqD hr.units) (pe_ix ix_seq (pv 0) pe_int (fun _ _ => rfl)) pe_str (nomark _)) (pe_cal c__law_low (hr.mono (by decide)) (passL) (pa_cons (pv 1) (pa_cons (pe_ix ix_seq (pv 0) pe_int (fun _ _ => rfl)) pa_nil))) (pe_cal c__law_low (hr.mono (by decide)) (passL) (pa_cons (pe_op op_add (pe_op op_mul pe_int (pv 1)) (pe_ix ix_seq (pv 0) pe_int (fun _ _ => rfl))) (pa_cons (pe_op op_mul pe_int (pe_ix ix_seq (pv 0) pe_int (fun _ _ => rfl))) pa_nil)))) (nomark _))))))))), ?_⟩
  try dsimp only [cxOf]
  obtain ⟨N, ww, s, st, k, rfl, g, s0, s1, k0, k1, rfl⟩ := hf
  obtain ⟨v0, r0, rfl, h0, hd⟩ := dps_cons hd
  obtain ⟨v1, r1, rfl, h1, hd⟩ := dps_cons hd
  obtain ⟨v2, r2, rfl, h2, hd⟩ := dps_cons hd
  obtain ⟨v3, r3, rfl, h3, hd⟩ := dps_cons hd
  obtain ⟨v4, r4, rfl, h4, hd⟩ := dps_cons hd
  obtain ⟨v5, r5, rfl, h5, hd⟩ := dps_cons hd
  obtain ⟨v6, r6, rfl, h6, hd⟩ := dps_cons hd
  obtain rfl := dps_nil hd
  have n3 := g.n3
  have n150 := g.n150
  have w2 := g.w2
  have w150 := g.w150
  obtain ⟨mw0, mw1⟩ := markW_bd g
  obtain ⟨wl0, wl1⟩ := whole_le g
  obtain ⟨l0, l1⟩ := lenI_bd g
  obtain ⟨q0, q1, -⟩ := low_parts (t := markX N ww s st k) mw0
  have sok := side_ok g
  have qn : 0 < lowQ (markX N ww s st k) (markW N ww s) * N ∧ lowQ (markX N ww s st k) (markW N ww s) * N < 1073741824 := by
    have := Int.mul_le_mul (show lowQ (markX N ww s st k) (markW N ww s) ≤ 45000 by omega) n150 (by omega) (by omega)
    exact ⟨Int.mul_pos q0 (by omega), by omega⟩
  have tw : Rd2 K (rI CMul fun i j => .int (i * j)) (.int (turnI N ww s)) (.int (N * ww)) (.int (turnI N ww s * (N * ww))) := rd_mulR (by omega)
  have tl : Rd2 K (rI CMul fun i j => .int (i * j)) (.int (lenI N ww)) (.int (turnT N ww s).natAbs) (.int (lenI N ww * (turnT N ww s).natAbs)) := rd_mulL (by omega)
  refine a_int (K := K) (n := (st + 1) % N) (by walk_at "y") fun H1 e1 => ?_
  have o0 := Int.emod_nonneg (st + 1) (show N ≠ 0 by omega)
  have o1 := Int.emod_lt_of_pos (st + 1) (show 0 < N by omega)
  refine a_val (K := K) (d := markI N ww s ((st + 1) % N) k) (yd_call (ya_cons (by walk_at "y") (ya_cons (by walk_at "y") (ya_cons (by walk_at "y") ya_nil))) (f_mark g o0 o1 k0 k1)) fun mv H2 e2 hmv => ?_
  refine i_no (yt_test (K := K) (yd_op (yd_call (ya_cons (yd_op (yd_op (by walk_at "y") (by walk_at "y") (rd_mulR (by omega))) (by walk_at "y") rd_add) (ya_cons (yd_op (by walk_at "y") (by walk_at "y") (rd_mulR (by omega))) ya_nil)) (f_low qn.1 qn.2)) (by walk_at "y") (neLow (mark_moved g)))) fun H3 e3 => ?_
  refine i_no (yt_is (yt_test (K := K) (yd_op (yd_call (ya_cons (by walk_at "y") (ya_cons (by walk_at "y") (ya_cons (by walk_at "y") ya_nil))) (f_ring g s0 s1 k0 k1)) (yd_op (yd_op (yd_call (ya_cons (by walk_at "y") (ya_cons (by walk_at "y") (ya_cons (by walk_at "y") ya_nil))) (f_ring g (Int.le_refl 0) (by omega) k0 k1)) (by walk_at "y") rd_add) (by walk_at "y") (rd_mod (by omega))) rd_neI)) (by rw [Int.zero_add, Int.emod_add_emod, Int.add_comm k st]; simp)) fun H4 e4 => ?_
  refine i_no (yt_or0 (yt_test (K := K) (yd_op (yd_call (ya_cons (by walk_at "y") (ya_cons (by walk_at "y") (ya_cons (by walk_at "y") ya_nil))) (f_centre g s0 s1 (Int.le_refl 0) (by omega))) (yd_call (ya_cons (by walk_at "y") (ya_cons (by walk_at "y") ya_nil)) (f_low (by omega) (by omega))) (neLow (by rw [Int.add_zero])))) (yt_is (yt_test (K := K) (yd_op (yd_op (yd_call (ya_cons (by walk_at "y") ya_nil) (F1.ok g)) (by walk_at "y") tw) (yd_op (by walk_at "y") (yd_cb (ya_cons (by walk_at "y") ya_nil) rd_abs) tl) rd_neI)) (by rw [turn_abs g]; simp))) fun H5 e5 => ?_
  refine r_go (d := .bool true) ?_ (Res.mono ((((e1.trans e2).trans e3).trans e4).trans e5) hk)
  refine yd_op (d := markI N ww s st 0) (e := if s = sIn then low st N else low (2 * st + N) (2 * N)) (yd_call (ya_cons (by walk_at "y") (ya_cons (by walk_at "y") (ya_cons (by walk_at "y") ya_nil))) (f_mark g s0 s1 (Int.le_refl 0) (by omega))) (yd_if (yt_test (K := K) (yd_op (by walk_at "y") yd_str (rd_eqS sok (by decide +kernel)))) (fun c => ?_) fun c => ?_) ?_
  · rw [if_pos (of_decide_eq_true c)]
    exact yd_call (ya_cons (by walk_at "y") (ya_cons (by walk_at "y") ya_nil)) (f_low (by omega) (by omega))
  · rw [if_neg (of_decide_eq_false c)]
    exact yd_call (ya_cons (by walk_at "y") (ya_cons (by walk_at "y") ya_nil)) (f_low (by omega) (by omega))
  · have e := mark_zero (st := st) g
    rw [← e]
    exact eqLow rfl
theorem ok_law {f0 : Addr} {fd0 : FuncData} (Z : DfA K mg "law" st_law f0 fd0) (c__law_start : Cal P w K mg base "_law_start" ["_law_script"] 1 (spStart K)) (c__law_gear : Cal P w K mg base "_law_gear" ["_law_draws"] 3 (spGear K)) (c_length : Cal P w K mg base "length" ["gear"] 4 (spF K F_length)) (c_centre : Cal P w K mg base "centre" ["gear", "start", "step"] 4 (spF K F_centre)) (c__law_moved : Cal P w K mg base "_law_moved" ["_law_gear_here", "_law_start_here", "_law_step", "_law_now", "_law_size", "_law_whole", "_law_turned"] 5 (spF K F__law_moved)) (c__law_draw : Cal P w K mg base "_law_draw" ["_law_draws", "_law_limit"] 1 spDraw) (c_mark_direction : Cal P w K mg base "mark_direction" ["gear", "start", "step"] 4 (spF K F_mark_direction)) (c__law_low : Cal P w K mg base "_law_low" ["_law_top", "_law_under"] 1 (spF K F__law_low)) (c__law_pick : Cal P w K mg base "_law_pick" ["_law_draws", "_law_choices"] 2 (spPick K)) (c_tip_at : Cal P w K mg base "tip_at" ["gear", "start", "number"] 4 (spF K F_tip_at)) (m_range : mg "range" = none) : FnOk P w K mg base (L2.CX P w) 6 f0 fd0 ["_law_script"] (spLaw K) := by
  refine Z.cal sc_law (fun _ _ _ _ _ _ us hl => match us, hl with | [_], _ => rfl) len_law (fun f cdv A outer s H vs Q E hr hf => ?_)
  refine ⟨_, (pss_cons (ps_set (i := 1) sc_law.nd rfl (.inl rfl) (pe_cal c__law_start (hr.mono (by decide)) (passL) (pa_cons (pv 0) pa_nil)))
    (pss_cons (ps_set (i := 2) sc_law.nd rfl (.inl rfl) (pe_cal c__law_gear (hr.mono (by decide)) (passL) (pa_cons (pv 1) pa_nil)))
    (pss_cons (ps_par (i := 3) (j := 4) rfl sc_law.nd rfl rfl (by decide) rfl rfl (pa_cons (pe_cal c__law_draw (hr.mono (by decide)) (passL) (pa_cons (pv 1) (pa_cons (pe_ix ix_seq (pv 2) pe_int (fun _ _ => rfl)) pa_nil))) (pa_cons (pe_cal c__law_draw (hr.mono (by decide)) (passL) (pa_cons (pv 1) (pa_cons (pe_cal c__law_pick (hr.mono (by decide)) (passL) (pa_cons (pv 1) (pa_cons (pe_lst (pa_cons pe_int (pa_cons pe_int pa_nil))) pa_nil))) pa_nil))) pa_nil)) rfl)
    (pss_cons (ps_set (i := 5) sc_law.nd rfl (.inl rfl) (pe_cal c_length (hr.mono (by decide)) (passL) (pa_cons (pv 2) pa_nil)))
    (pss_cons (ps_par (i := 6) (j := 7) rfl sc_law.nd rfl rfl (by decide) rfl rfl (pa_cons (pe_cal c_mark_direction (hr.mono (by decide)) (passL) (pa_cons (pv 2) (pa_cons (pv 3) (pa_cons (pv 4) pa_nil)))) (pa_cons (pe_cal c_mark_direction (hr.mono (by decide)) (passL) (pa_cons (pv 2) (pa_cons (pv 3) (pa_cons (pe_op op_add (pv 4) pe_int) pa_nil)))) pa_nil)) rfl)
    (pss_cons (ps_set (i := 8) sc_law.nd rfl (.inl rfl) (pe_op op_mul (pe_ix ix_seq (pv 2) pe_int (fun _ _ => rfl)) (pe_ix ix_seq (pv 2) pe_int (fun _ _ => rfl))))
    (pss_cons (ps_set (i := 9) sc_law.nd rfl (.inl rfl) (pe_ifExp (pt_cmpR (op_eqD hr.units) (pe_ix ix_seq (pv 2) pe_int (fun _ _ => rfl)) pe_str (nomark _)) (pe_op op_add (pe_ix ix_seq (pv 2) pe_int (fun _ _ => rfl)) (pe_ix ix_seq (pv 2) pe_int (fun _ _ => rfl))) (pe_op op_sub (pe_ix ix_seq (pv 2) pe_int (fun _ _ => rfl)) (pe_ix ix_seq (pv 2) pe_int (fun _ _ => rfl)))))
    (pss_cons (ps_if (pt_cmpR (op_neD hr.units) (pe_cal c__law_low (hr.mono (by decide)) (passL) (pa_cons (pe_op op_add (pe_op op_mul (pe_ix ix_seq (pv 6) pe_int (fun _ _ => rfl)) (pv 8)) (pe_op op_mul (pv 9) (pe_ix ix_seq (pv 6) pe_int (fun _ _ => rfl)))) (pa_cons (pe_op op_mul (pe_ix ix_seq (pv 6) pe_int (fun _ _ => rfl)) (pv 8)) pa_nil))) (pv 7) (nomark _)) (pss_one (ps_ret pe_bl)) pss_nil)
    (pss_cons (ps_set (i := 10) sc_law.nd rfl (.inl rfl) (pe_cal c_centre (hr.mono (by decide)) (passL) (pa_cons (pv 2) (pa_cons (pv 3) (pa_cons (pv 4) pa_nil)))))
    (pss_cons (ps_if (pt_cmpR (op_neD hr.units) (pe_cal c__law_low (hr.mono (by decide)) (passL) (pa_cons (pe_op op_add (pe_op op_mul (pe_ix ix_seq (pv 10) pe_int (fun _ _ => rfl)) (pe_ix ix_seq (pv 2) pe_int (fun _ _ => rfl))) (pe_ix ix_seq (pv 10) pe_int (fun _ _ => rfl))) (pa_cons (pe_op op_mul (pe_ix ix_seq (pv 10) pe_int (fun _ _ => rfl)) (pe_ix ix_seq (pv 2) pe_int (fun _ _ => rfl))) pa_nil))) (pe_cal c_centre (hr.mono (by decide)) (passL) (pa_cons (pv 2) (pa_cons (pv 3) (pa_cons (pe_op op_add (pv 4) pe_int) pa_nil)))) (nomark _)) (pss_one (ps_ret pe_bl)) pss_nil)
    (pss_cons (ps_if (PW.pt (pw_or (pt_cmpR (op_neD hr.units) (pe_cal c_mark_direction (hr.mono (by decide)) (passL) (pa_cons (pv 2) (pa_cons (pv 3) (pa_cons (pe_op op_add (pv 4) (pv 5)) pa_nil)))) (pv 6) (nomark _)) (pw_or1 (pt_cmpR (op_neD hr.units) (pe_cal c_centre (hr.mono (by decide)) (passL) (pa_cons (pv 2) (pa_cons (pv 3) (pa_cons (pe_op op_add (pv 4) (pv 5)) pa_nil)))) (pe_cal c_centre (hr.mono (by decide)) (passL) (pa_cons (pv 2) (pa_cons (pv 3) (pa_cons (pv 4) pa_nil)))) (nomark _))))) (pss_one (ps_ret pe_bl)) pss_nil)
    (pss_cons (ps_for (passes_of rfl) rfl (pi_range1 rfl m_range (pa_cons pe_int pa_nil)) (pg_name (i := 11) sc_law.nd rfl (.inl rfl)) (pss_cons (ps_set (i := 12) sc_law.nd rfl (.inl rfl) (pe_op op_mul (pv 11) (pe_ix ix_seq (pv 2) pe_int (fun _ _ => rfl))))
    (pss_cons (ps_set (i := 10) sc_law.nd rfl (.inl rfl) (pe_cal c_centre (hr.mono (by decide)) (passL) (pa_cons (pv 2) (pa_cons (pv 3) (pa_cons (pv 12) pa_nil)))))
    (pss_cons (ps_set (i := 13) sc_law.nd rfl (.inl rfl) (pe_ifExp (pt_cmpR (op_eqD hr.units) (pe_ix ix_seq (pv 2) pe_int (fun _ _ => rfl)) pe_str (nomark _)) (pv 10) (pe_cal c__law_low (hr.mono (by decide)) (passL) (pa_cons (pe_op op_add (pe_op op_mul pe_int (pe_ix ix_seq (pv 10) pe_int (fun _ _ => rfl))) (pe_ix ix_seq (pv 10) pe_int (fun _ _ => rfl))) (pa_cons (pe_op op_mul pe_int (pe_ix ix_seq (pv 10) pe_int (fun _ _ => rfl))) pa_nil)))))
    (pss_one (ps_if (PW.pt (pw_or (pt_cmpR (op_neD hr.units) (pe_cal c_mark_direction (hr.mono (by decide)) (passL) (pa_cons (pv 2) (pa_cons (pv 3) (pa_cons (pv 12) pa_nil)))) (pv 13) (nomark _)) (pw_or1 (pt_cmpR (op_neD hr.units) (pe_cal c_centre (hr.mono (by decide)) (passL) (pa_cons (pv 2) (pa_cons (pv 3) (pa_cons (pv 12) pa_nil)))) (pe_cal c__law_low (hr.mono (by decide)) (passL) (pa_cons (pe_cal c_tip_at (hr.mono (by decide)) (passL) (pa_cons (pv 2) (pa_cons (pv 3) (pa_cons (pv 11) pa_nil)))) (pa_cons (pe_ix ix_seq (pv 2) pe_int (fun _ _ => rfl)) pa_nil))) (nomark _))))) (pss_one (ps_ret pe_bl)) pss_nil))))))
    (pss_one (ps_ret (pe_cal c__law_moved (hr.mono (by decide)) (passL) (pa_cons (pv 2) (pa_cons (pv 3) (pa_cons (pv 4) (pa_cons (pv 6) (pa_cons (pv 5) (pa_cons (pv 8) (pa_cons (pv 9) pa_nil)))))))))))))))))))))), ?_⟩
  try dsimp only [cxOf]
  obtain ⟨a, ns, rfl, hS, hl, k⟩ := hf
  refine q_start (by rfl) hS hl fun p q H1 hp hq e1 hD => ?_
  refine q_gear (by rfl) hD fun v N ww s H2 g x2 d2 hvM => ?_
  have hm := Md.re d2
  have hv := dp_ex hm.ex hvM
  have n3 := g.n3
  have n150 := g.n150
  have w2 := g.w2
  have w150 := g.w150
  refine q_par hm (zi_draw (by rfl) (zi_pure (K := K) (by walk_at "y")) (fun n e => by subst e; omega)) (zi_draw (by rfl) (zi_pick (K := K) (ns := [40, 900000]) (by rfl) (yn_lst (ya_cons yd_int (ya_cons yd_int ya_nil)) (by decide)) (by decide) (by decide)) (fun n hn => by
    have : n = 40 ∨ n = 900000 := by simpa using hn
    omega)) ?_
  rintro _ _ H3 ⟨st, rfl, n1, en1, s0, s1⟩ ⟨kk, rfl, n2, hn2, k0, k1'⟩ hm
  rw [en1] at s1
  have k1 : kk < 900000 := by
    have : n2 = 40 ∨ n2 = 900000 := by simpa using hn2
    omega
  obtain ⟨mw0, mw1⟩ := markW_bd g
  obtain ⟨wl0, wl1⟩ := whole_le g
  obtain ⟨l0, l1⟩ := lenI_bd g
  obtain ⟨q0, q1, -⟩ := low_parts (t := markX N ww s st kk) mw0
  have sok := side_ok g
  have qw : 0 < lowQ (markX N ww s st kk) (markW N ww s) * (N * ww) ∧ lowQ (markX N ww s st kk) (markW N ww s) * (N * ww) < 1073741824 := by
    have := Int.mul_le_mul (show lowQ (markX N ww s st kk) (markW N ww s) ≤ 45000 by omega) wl1 (by omega) (by omega)
    exact ⟨Int.mul_pos q0 (by omega), by omega⟩
  obtain ⟨c0, c1, -⟩ := low_parts (t := st + kk) (show 0 < N by omega)
  have cw : 0 < lowQ (st + kk) N * N ∧ lowQ (st + kk) N * N < 1073741824 := by
    have := Int.mul_le_mul (show lowQ (st + kk) N ≤ 150 by omega) n150 (by omega) (by omega)
    exact ⟨Int.mul_pos c0 (by omega), by omega⟩
  have tb1 : turnT N ww s ≤ 300 ∧ -300 ≤ turnT N ww s := by
    unfold turnT
    split <;> omega
  have hv3 := dp_ex hm.ex hvM
  refine a_int (K := K) (n := lenI N ww) (by walk_at "y") fun H4 e4 => ?_
  refine a_par (K := K) (d := markI N ww s st kk) (e := markI N ww s st (kk + 1)) (ya_cons (yd_call (by walk_at "y") (f_mark g s0 s1 k0 (by omega))) (ya_cons (yd_call (ya_cons (by walk_at "y") (ya_cons (by walk_at "y") (ya_cons (yd_op (by walk_at "y") yd_int rd_add) ya_nil))) (f_mark g s0 s1 (by omega) (by omega))) ya_nil)) fun now thn H5 e5 hnow hthn => ?_
  refine a_int (K := K) (n := N * ww) (by walk_at "y") fun H6 e6 => ?_
  refine a_int (K := K) (n := turnT N ww s) (yd_if (yt_test (K := K) (yd_op (by walk_at "y") yd_str (rd_eqS sok (by decide +kernel)))) (fun c => Yd.is (by walk_at "y") (by unfold turnT; rw [if_pos (of_decide_eq_true c)])) fun c => Yd.is (by walk_at "y") (by unfold turnT; rw [if_neg (of_decide_eq_false c)])) fun H7 e7 => ?_
  refine i_no (yt_test (K := K) (yd_op (yd_call (ya_cons (yd_op (yd_op (by walk_at "y") (by walk_at "y") (rd_mulR (by omega))) (yd_op (by walk_at "y") (by walk_at "y") (rd_mulR (by omega))) rd_add) (ya_cons (yd_op (by walk_at "y") (by walk_at "y") (rd_mulR (by omega))) ya_nil)) (f_low qw.1 qw.2)) (by walk_at "y") (neLow (mark_next g)))) fun H8 e8 => ?_
  refine a_val (K := K) (d := low (st + kk) N) (yd_call (by walk_at "y") (f_centre g s0 s1 k0 (by omega))) fun mid H9 e9 hmid => ?_
  refine i_no (yt_test (K := K) (yd_op (yd_call (ya_cons (yd_op (yd_op (by walk_at "y") (by walk_at "y") (rd_mulR (by omega))) (by walk_at "y") rd_add) (ya_cons (yd_op (by walk_at "y") (by walk_at "y") (rd_mulR (by omega))) ya_nil)) (f_low cw.1 cw.2)) (yd_call (ya_cons (by walk_at "y") (ya_cons (by walk_at "y") (ya_cons (yd_op (by walk_at "y") yd_int rd_add) ya_nil))) (f_centre g s0 s1 (by omega) (by omega))) (neLow (centre_next (by omega))))) fun H10 e10 => ?_
  refine i_no (yt_or0 (yt_test (K := K) (yd_op (yd_call (ya_cons (by walk_at "y") (ya_cons (by walk_at "y") (ya_cons (yd_op (by walk_at "y") (by walk_at "y") rd_add) ya_nil))) (f_mark g s0 s1 (by omega) (by omega))) (by walk_at "y") (neLow (mark_period g)))) (yt_test (K := K) (yd_op (yd_call (ya_cons (by walk_at "y") (ya_cons (by walk_at "y") (ya_cons (yd_op (by walk_at "y") (by walk_at "y") rd_add) ya_nil))) (f_centre g s0 s1 (by omega) (by omega))) (yd_call (by walk_at "y") (f_centre g s0 s1 k0 (by omega))) (neLow (centre_period g))))) fun H11 e11 => ?_
  have hv11 : Dp K H11 v (gear N ww s) := by walk_at "dp"
  have hnow11 : Dp K H11 now (markI N ww s st kk) := by walk_at "dp"
  refine f_rng1 (K := K) (m := 3) (by walk_at "y") (by decide) (fun i σ' H' => Ex H11 H' ∧ ∃ b1 b2 b3 b4, σ' = [some (.ref a), some (.ref p), some v, some (.int st), some (.int kk), some (.int (lenI N ww)), some now, some thn, some (.int (N * ww)), some (.int (turnT N ww s)), b1, b2, b3, b4]) (fun H12 e12 => ⟨e12, _, _, _, _, rfl⟩) ?_ ?_
  · rintro i σ' H' hi ⟨eH, b1, b2, b3, b4, rfl⟩
    have i0 : (0 : Int) ≤ i := by omega
    have hp1 : 0 ≤ (i : Int) * ww ∧ (i : Int) * ww ≤ 300 := by
      have := Int.mul_le_mul (show (i : Int) ≤ 2 by omega) w150 (by omega) (by omega)
      exact ⟨Int.mul_nonneg i0 (by omega), by omega⟩
    refine a_int (K := K) (n := (i : Int) * ww) (by walk_at "y") fun H12 e12 => ?_
    refine a_val (K := K) (d := low (st + (i : Int) * ww) N) (yd_call (by walk_at "y") (f_centre g s0 s1 (by omega) (by omega))) fun md H13 e13 hmd => ?_
    obtain ⟨t0, t1, -⟩ := low_parts (t := st + (i : Int) * ww) (show 0 < N by omega)
    refine a_val (K := K) (d := markI N ww s st ((i : Int) * ww)) ?_ fun due H14 e14 hdue => ?_
    · rw [mark_tip g]
      refine yd_if (yt_test (K := K) (yd_op (by walk_at "y") yd_str (rd_eqS sok (by decide +kernel)))) (fun c => ?_) fun c => ?_
      · rw [if_pos (of_decide_eq_true c)]
        walk_at "y"
      · rw [if_neg (of_decide_eq_false c)]
        exact yd_call (by walk_at "y") (f_low (by omega) (by omega))
    refine j_nox (yt_or0 (yt_test (K := K) (yd_op (yd_call (by walk_at "y") (f_mark g s0 s1 (by omega) (by omega))) (by walk_at "y") (neLow rfl))) (yt_test (K := K) (yd_op (yd_call (by walk_at "y") (f_centre g s0 s1 (by omega) (by omega))) (yd_call (ya_cons (yd_call (by walk_at "y") (f_tipat g s0 s1 (by omega) (by omega))) (ya_cons (by walk_at "y") ya_nil)) (f_low (by omega) (by omega))) (neLow low_mod.symm)))) fun H15 e15 => ?_
    exact ⟨(((eH.trans e12).trans e13).trans e14).trans e15, _, _, _, _, rfl⟩
  · rintro σ' H' ⟨eH, b1, b2, b3, b4, rfl⟩
    refine r_val (K := K) (d := .bool true) (yd_call (by walk_at "y") (f_moved g s0 s1 k0 (by omega))) fun u H16 e16 p16 => ?_
    obtain rfl := dp_bl p16
    exact k _
end

/-! ### the head -/
def D__law_start : He.DefD := ⟨("_law_start", none), "_law_start", "_law_start", defArgs st__law_start, defBody st__law_start, defScope st__law_start, [], []⟩
def D__law_draw : He.DefD := ⟨("_law_draw", none), "_law_draw", "_law_draw", defArgs st__law_draw, defBody st__law_draw, defScope st__law_draw, [], []⟩
def D__law_pick : He.DefD := ⟨("_law_pick", none), "_law_pick", "_law_pick", defArgs st__law_pick, defBody st__law_pick, defScope st__law_pick, [], []⟩
def D__law_gear : He.DefD := ⟨("_law_gear", none), "_law_gear", "_law_gear", defArgs st__law_gear, defBody st__law_gear, defScope st__law_gear, [], []⟩
def D_is_int : He.DefD := ⟨("is_int", none), "is_int", "is_int", defArgs st_is_int, defBody st_is_int, defScope st_is_int, [], []⟩
def D_is_gear : He.DefD := ⟨("is_gear", none), "is_gear", "is_gear", defArgs st_is_gear, defBody st_is_gear, defScope st_is_gear, [], []⟩
def D_check_gear : He.DefD := ⟨("check_gear", none), "check_gear", "check_gear", defArgs st_check_gear, defBody st_check_gear, defScope st_check_gear, [], []⟩
def D_common : He.DefD := ⟨("common", none), "common", "common", defArgs st_common, defBody st_common, defScope st_common, [], []⟩
def D_shared_of : He.DefD := ⟨("shared_of", none), "shared_of", "shared_of", defArgs st_shared_of, defBody st_shared_of, defScope st_shared_of, [], []⟩
def D_length_of : He.DefD := ⟨("length_of", none), "length_of", "length_of", defArgs st_length_of, defBody st_length_of, defScope st_length_of, [], []⟩
def D_length : He.DefD := ⟨("length", none), "length", "length", defArgs st_length, defBody st_length, defScope st_length, [], []⟩
def D_check_tooth : He.DefD := ⟨("check_tooth", none), "check_tooth", "check_tooth", defArgs st_check_tooth, defBody st_check_tooth, defScope st_check_tooth, [], []⟩
def D_check_step : He.DefD := ⟨("check_step", none), "check_step", "check_step", defArgs st_check_step, defBody st_check_step, defScope st_check_step, [], []⟩
def D_lowest : He.DefD := ⟨("lowest", none), "lowest", "lowest", defArgs st_lowest, defBody st_lowest, defScope st_lowest, [], []⟩
def D_centre : He.DefD := ⟨("centre", none), "centre", "centre", defArgs st_centre, defBody st_centre, defScope st_centre, [], []⟩
def D_mark_direction : He.DefD := ⟨("mark_direction", none), "mark_direction", "mark_direction", defArgs st_mark_direction, defBody st_mark_direction, defScope st_mark_direction, [], []⟩
def D__law_low : He.DefD := ⟨("_law_low", none), "_law_low", "_law_low", defArgs st__law_low, defBody st__law_low, defScope st__law_low, [], []⟩
def D_ring_tooth : He.DefD := ⟨("ring_tooth", none), "ring_tooth", "ring_tooth", defArgs st_ring_tooth, defBody st_ring_tooth, defScope st_ring_tooth, [], []⟩
def D_petals_of : He.DefD := ⟨("petals_of", none), "petals_of", "petals_of", defArgs st_petals_of, defBody st_petals_of, defScope st_petals_of, [], []⟩
def D_rounds_of : He.DefD := ⟨("rounds_of", none), "rounds_of", "rounds_of", defArgs st_rounds_of, defBody st_rounds_of, defScope st_rounds_of, [], []⟩
def D_wheel_turns : He.DefD := ⟨("wheel_turns", none), "wheel_turns", "wheel_turns", defArgs st_wheel_turns, defBody st_wheel_turns, defScope st_wheel_turns, [], []⟩
def D__law_moved : He.DefD := ⟨("_law_moved", none), "_law_moved", "_law_moved", defArgs st__law_moved, defBody st__law_moved, defScope st__law_moved, [], []⟩
def D_tip_at : He.DefD := ⟨("tip_at", none), "tip_at", "tip_at", defArgs st_tip_at, defBody st_tip_at, defScope st_tip_at, [], []⟩
def D_law : He.DefD := ⟨("law", none), "law", "law", defArgs st_law, defBody st_law, defScope st_law, [], []⟩
def fnL : List He.DefD := [D__law_start, D__law_draw, D__law_pick, D__law_gear, D_is_int, D_is_gear, D_check_gear, D_common, D_shared_of, D_length_of, D_length, D_check_tooth, D_check_step, D_lowest, D_centre, D_mark_direction, D__law_low, D_ring_tooth, D_petals_of, D_rounds_of, D_wheel_turns, D__law_moved, D_tip_at, D_law]
def faL : List He.Fa := [.glo "_law_start", .glo "_law_draw", .glo "_law_pick", .glo "_law_gear", .glo "is_int", .glo "is_gear", .glo "check_gear", .glo "common", .glo "shared_of", .glo "length_of", .glo "length", .glo "check_tooth", .glo "check_step", .glo "lowest", .glo "centre", .glo "mark_direction", .glo "_law_low", .glo "ring_tooth", .glo "petals_of", .glo "rounds_of", .glo "wheel_turns", .glo "_law_moved", .glo "tip_at", .glo "law", .free "list", .free "len", .free "min", .free "isinstance", .free "int", .free "bool", .free "tuple", .free "str", .free "abs", .free "range", .glo "BadGear", .exc "BadGear", .glo "BadTooth", .exc "BadTooth", .glo "BadNumber", .exc "BadNumber", .int "MOST_STEP" 1000000]
abbrev R : PySem.W.OpenRow := PySem.W.OpenLaw.row PySem.Challenge.rw_wheelcurves_k15_whole_directions
abbrev hk : PySem.W.Hook := He.hookD 4 faL fnL
def ob (s : PySem.W.SharedT) : He.AlD := He.obsDG 4 faL fnL (HandSHeadRun.getT s)
theorem ob_eq (s : PySem.W.SharedT) : ob s = hk.obs s.abs := He.obsDG_eq (HandSHeadRun.getT_eq s)
def loose0 : List Str := ["WheelError", "BadGear", "BadTooth", "BadNumber", "MOST_STEP", "is_int", "common", "is_gear", "check_gear", "check_tooth", "check_step", "shared_of", "length_of", "length", "petals_of", "rounds_of", "wheel_turns", "lowest", "ring_tooth", "centre", "mark_direction", "tip_at", "_law_start", "_law_draw", "_law_pick", "_law_low", "_law_gear", "_law_moved"]
def looseL : List Str := loose0
theorem run (w : World) : HandSHeadRun.RunEq R (PySem.W.view R.prog [33]) hk ob 6000 looseL w := by
  intro os
  kernel_rfl
theorem facts {P : Program} {w : World} {K : PySem.W.Frag} {h : Heap} {mg : Str → Option Value} {f : Addr} (X : K.In h) (G : h.Ns mainGlobals mg) (hfa : mg ("law" : Str) = some (.ref f)) (c : He.SaysD faL fnL K) :
    ∃ fd : FuncData, (∀ (s : Shared) (v : Value), BindsTo s fd ⟨[v], []⟩ [("_law_script", v)]) ∧ ∀ base : Heap, K.In base → base.Ns mainGlobals mg → FnOk P w K mg base (L2.CX P w) 6 f fd ["_law_script"] (spLaw K) := by
  have d__law_start : Df K mg "_law_start" st__law_start := by
    obtain ⟨fd, F⟩ := c.def_ 0 (d := D__law_start) rfl
    exact ⟨_, fd, F, He.glo_ok X G (c.fact 0 (f := .glo "_law_start") rfl)⟩
  have d__law_draw : Df K mg "_law_draw" st__law_draw := by
    obtain ⟨fd, F⟩ := c.def_ 1 (d := D__law_draw) rfl
    exact ⟨_, fd, F, He.glo_ok X G (c.fact 1 (f := .glo "_law_draw") rfl)⟩
  have d__law_pick : Df K mg "_law_pick" st__law_pick := by
    obtain ⟨fd, F⟩ := c.def_ 2 (d := D__law_pick) rfl
    exact ⟨_, fd, F, He.glo_ok X G (c.fact 2 (f := .glo "_law_pick") rfl)⟩
  have d__law_gear : Df K mg "_law_gear" st__law_gear := by
    obtain ⟨fd, F⟩ := c.def_ 3 (d := D__law_gear) rfl
    exact ⟨_, fd, F, He.glo_ok X G (c.fact 3 (f := .glo "_law_gear") rfl)⟩
  have d_is_int : Df K mg "is_int" st_is_int := by
    obtain ⟨fd, F⟩ := c.def_ 4 (d := D_is_int) rfl
    exact ⟨_, fd, F, He.glo_ok X G (c.fact 4 (f := .glo "is_int") rfl)⟩
  have d_is_gear : Df K mg "is_gear" st_is_gear := by
    obtain ⟨fd, F⟩ := c.def_ 5 (d := D_is_gear) rfl
    exact ⟨_, fd, F, He.glo_ok X G (c.fact 5 (f := .glo "is_gear") rfl)⟩
  have d_check_gear : Df K mg "check_gear" st_check_gear := by
    obtain ⟨fd, F⟩ := c.def_ 6 (d := D_check_gear) rfl
    exact ⟨_, fd, F, He.glo_ok X G (c.fact 6 (f := .glo "check_gear") rfl)⟩
  have d_common : Df K mg "common" st_common := by
    obtain ⟨fd, F⟩ := c.def_ 7 (d := D_common) rfl
    exact ⟨_, fd, F, He.glo_ok X G (c.fact 7 (f := .glo "common") rfl)⟩
  have d_shared_of : Df K mg "shared_of" st_shared_of := by
    obtain ⟨fd, F⟩ := c.def_ 8 (d := D_shared_of) rfl
    exact ⟨_, fd, F, He.glo_ok X G (c.fact 8 (f := .glo "shared_of") rfl)⟩
  have d_length_of : Df K mg "length_of" st_length_of := by
    obtain ⟨fd, F⟩ := c.def_ 9 (d := D_length_of) rfl
    exact ⟨_, fd, F, He.glo_ok X G (c.fact 9 (f := .glo "length_of") rfl)⟩
  have d_length : Df K mg "length" st_length := by
    obtain ⟨fd, F⟩ := c.def_ 10 (d := D_length) rfl
    exact ⟨_, fd, F, He.glo_ok X G (c.fact 10 (f := .glo "length") rfl)⟩
  have d_check_tooth : Df K mg "check_tooth" st_check_tooth := by
    obtain ⟨fd, F⟩ := c.def_ 11 (d := D_check_tooth) rfl
    exact ⟨_, fd, F, He.glo_ok X G (c.fact 11 (f := .glo "check_tooth") rfl)⟩
  have d_check_step : Df K mg "check_step" st_check_step := by
    obtain ⟨fd, F⟩ := c.def_ 12 (d := D_check_step) rfl
    exact ⟨_, fd, F, He.glo_ok X G (c.fact 12 (f := .glo "check_step") rfl)⟩
  have d_lowest : Df K mg "lowest" st_lowest := by
    obtain ⟨fd, F⟩ := c.def_ 13 (d := D_lowest) rfl
    exact ⟨_, fd, F, He.glo_ok X G (c.fact 13 (f := .glo "lowest") rfl)⟩
  have d_centre : Df K mg "centre" st_centre := by
    obtain ⟨fd, F⟩ := c.def_ 14 (d := D_centre) rfl
    exact ⟨_, fd, F, He.glo_ok X G (c.fact 14 (f := .glo "centre") rfl)⟩
  have d_mark_direction : Df K mg "mark_direction" st_mark_direction := by
    obtain ⟨fd, F⟩ := c.def_ 15 (d := D_mark_direction) rfl
    exact ⟨_, fd, F, He.glo_ok X G (c.fact 15 (f := .glo "mark_direction") rfl)⟩
  have d__law_low : Df K mg "_law_low" st__law_low := by
    obtain ⟨fd, F⟩ := c.def_ 16 (d := D__law_low) rfl
    exact ⟨_, fd, F, He.glo_ok X G (c.fact 16 (f := .glo "_law_low") rfl)⟩
  have d_ring_tooth : Df K mg "ring_tooth" st_ring_tooth := by
    obtain ⟨fd, F⟩ := c.def_ 17 (d := D_ring_tooth) rfl
    exact ⟨_, fd, F, He.glo_ok X G (c.fact 17 (f := .glo "ring_tooth") rfl)⟩
  have d_petals_of : Df K mg "petals_of" st_petals_of := by
    obtain ⟨fd, F⟩ := c.def_ 18 (d := D_petals_of) rfl
    exact ⟨_, fd, F, He.glo_ok X G (c.fact 18 (f := .glo "petals_of") rfl)⟩
  have d_rounds_of : Df K mg "rounds_of" st_rounds_of := by
    obtain ⟨fd, F⟩ := c.def_ 19 (d := D_rounds_of) rfl
    exact ⟨_, fd, F, He.glo_ok X G (c.fact 19 (f := .glo "rounds_of") rfl)⟩
  have d_wheel_turns : Df K mg "wheel_turns" st_wheel_turns := by
    obtain ⟨fd, F⟩ := c.def_ 20 (d := D_wheel_turns) rfl
    exact ⟨_, fd, F, He.glo_ok X G (c.fact 20 (f := .glo "wheel_turns") rfl)⟩
  have d__law_moved : Df K mg "_law_moved" st__law_moved := by
    obtain ⟨fd, F⟩ := c.def_ 21 (d := D__law_moved) rfl
    exact ⟨_, fd, F, He.glo_ok X G (c.fact 21 (f := .glo "_law_moved") rfl)⟩
  have d_tip_at : Df K mg "tip_at" st_tip_at := by
    obtain ⟨fd, F⟩ := c.def_ 22 (d := D_tip_at) rfl
    exact ⟨_, fd, F, He.glo_ok X G (c.fact 22 (f := .glo "tip_at") rfl)⟩
  have m_list : mg "list" = none := He.free_ok X G (c.fact 24 (f := .free "list") rfl)
  have m_len : mg "len" = none := He.free_ok X G (c.fact 25 (f := .free "len") rfl)
  have m_min : mg "min" = none := He.free_ok X G (c.fact 26 (f := .free "min") rfl)
  have m_isinstance : mg "isinstance" = none := He.free_ok X G (c.fact 27 (f := .free "isinstance") rfl)
  have m_int : mg "int" = none := He.free_ok X G (c.fact 28 (f := .free "int") rfl)
  have m_bool : mg "bool" = none := He.free_ok X G (c.fact 29 (f := .free "bool") rfl)
  have m_tuple : mg "tuple" = none := He.free_ok X G (c.fact 30 (f := .free "tuple") rfl)
  have m_str : mg "str" = none := He.free_ok X G (c.fact 31 (f := .free "str") rfl)
  have m_abs : mg "abs" = none := He.free_ok X G (c.fact 32 (f := .free "abs") rfl)
  have m_range : mg "range" = none := He.free_ok X G (c.fact 33 (f := .free "range") rfl)
  have e_BadGear : ExF K mg "BadGear" := by
    obtain ⟨z1, z2, z3, z4⟩ := He.exc_ok (c.fact 35 (f := .exc "BadGear") rfl)
    exact ⟨He.glo_ok X G (c.fact 34 (f := .glo "BadGear") rfl), z1, z2, z3, z4⟩
  have e_BadTooth : ExF K mg "BadTooth" := by
    obtain ⟨z1, z2, z3, z4⟩ := He.exc_ok (c.fact 37 (f := .exc "BadTooth") rfl)
    exact ⟨He.glo_ok X G (c.fact 36 (f := .glo "BadTooth") rfl), z1, z2, z3, z4⟩
  have e_BadNumber : ExF K mg "BadNumber" := by
    obtain ⟨z1, z2, z3, z4⟩ := He.exc_ok (c.fact 39 (f := .exc "BadNumber") rfl)
    exact ⟨He.glo_ok X G (c.fact 38 (f := .glo "BadNumber") rfl), z1, z2, z3, z4⟩
  have g_MOST_STEP := He.int_ok X G (c.fact 40 (f := .int "MOST_STEP" 1000000) rfl)
  have c__law_start : ∀ base : Heap, Cal P w K mg base "_law_start" ["_law_script"] 1 (spStart K) := fun base => ok__law_start d__law_start m_list
  have c__law_draw : ∀ base : Heap, Cal P w K mg base "_law_draw" ["_law_draws", "_law_limit"] 1 spDraw := fun base => ok__law_draw d__law_draw m_len
  have c__law_pick : ∀ base : Heap, Cal P w K mg base "_law_pick" ["_law_draws", "_law_choices"] 2 (spPick K) := fun base => ok__law_pick d__law_pick (c__law_draw base) m_len
  have c__law_gear : ∀ base : Heap, Cal P w K mg base "_law_gear" ["_law_draws"] 3 (spGear K) := fun base => ok__law_gear d__law_gear (c__law_pick base) (c__law_draw base) m_min
  have c_is_int : ∀ base : Heap, Cal P w K mg base "is_int" ["value", "low", "high"] 1 (spF K F_is_int) := fun base => ok_is_int d_is_int m_isinstance m_int m_bool
  have c_is_gear : ∀ base : Heap, Cal P w K mg base "is_gear" ["value"] 2 (spF K F_is_gear) := fun base => ok_is_gear d_is_gear (c_is_int base) m_isinstance m_tuple m_len m_str
  have c_check_gear : ∀ base : Heap, Cal P w K mg base "check_gear" ["value"] 3 (spF K F_check_gear) := fun base => ok_check_gear d_check_gear (c_is_gear base) e_BadGear
  have c_common : ∀ base : Heap, Cal P w K mg base "common" ["one", "other"] 1 (spF K F_common) := fun base => ok_common d_common
  have c_shared_of : ∀ base : Heap, Cal P w K mg base "shared_of" ["gear"] 2 (spF K F_shared_of) := fun base => ok_shared_of d_shared_of (c_common base)
  have c_length_of : ∀ base : Heap, Cal P w K mg base "length_of" ["gear"] 3 (spF K F_length_of) := fun base => ok_length_of d_length_of (c_shared_of base)
  have c_length : ∀ base : Heap, Cal P w K mg base "length" ["gear"] 4 (spF K F_length) := fun base => ok_length d_length (c_check_gear base) (c_length_of base)
  have c_check_tooth : ∀ base : Heap, Cal P w K mg base "check_tooth" ["gear", "value"] 2 (spF K F_check_tooth) := fun base => ok_check_tooth d_check_tooth (c_is_int base) e_BadTooth
  have c_check_step : ∀ base : Heap, Cal P w K mg base "check_step" ["value"] 2 (spF K F_check_step) := fun base => ok_check_step d_check_step (c_is_int base) e_BadNumber g_MOST_STEP
  have c_lowest : ∀ base : Heap, Cal P w K mg base "lowest" ["top", "below"] 2 (spF K F_lowest) := fun base => ok_lowest d_lowest (c_common base)
  have c_centre : ∀ base : Heap, Cal P w K mg base "centre" ["gear", "start", "step"] 4 (spF K F_centre) := fun base => ok_centre d_centre (c_check_gear base) (c_check_tooth base) (c_check_step base) (c_lowest base)
  have c_mark_direction : ∀ base : Heap, Cal P w K mg base "mark_direction" ["gear", "start", "step"] 4 (spF K F_mark_direction) := fun base => ok_mark_direction d_mark_direction (c_check_gear base) (c_check_tooth base) (c_check_step base) (c_lowest base)
  have c__law_low : ∀ base : Heap, Cal P w K mg base "_law_low" ["_law_top", "_law_under"] 1 (spF K F__law_low) := fun base => ok__law_low d__law_low
  have c_ring_tooth : ∀ base : Heap, Cal P w K mg base "ring_tooth" ["gear", "start", "step"] 4 (spF K F_ring_tooth) := fun base => ok_ring_tooth d_ring_tooth (c_check_gear base) (c_check_tooth base) (c_check_step base)
  have c_petals_of : ∀ base : Heap, Cal P w K mg base "petals_of" ["gear"] 3 (spF K F_petals_of) := fun base => ok_petals_of d_petals_of (c_shared_of base)
  have c_rounds_of : ∀ base : Heap, Cal P w K mg base "rounds_of" ["gear"] 3 (spF K F_rounds_of) := fun base => ok_rounds_of d_rounds_of (c_shared_of base)
  have c_wheel_turns : ∀ base : Heap, Cal P w K mg base "wheel_turns" ["gear"] 4 (spF K F_wheel_turns) := fun base => ok_wheel_turns d_wheel_turns (c_check_gear base) (c_petals_of base) (c_rounds_of base)
  have c__law_moved : ∀ base : Heap, Cal P w K mg base "_law_moved" ["_law_gear_here", "_law_start_here", "_law_step", "_law_now", "_law_size", "_law_whole", "_law_turned"] 5 (spF K F__law_moved) := fun base => ok__law_moved d__law_moved (c_mark_direction base) (c__law_low base) (c_ring_tooth base) (c_centre base) (c_wheel_turns base) m_abs
  have c_tip_at : ∀ base : Heap, Cal P w K mg base "tip_at" ["gear", "start", "number"] 4 (spF K F_tip_at) := fun base => ok_tip_at d_tip_at (c_check_gear base) (c_check_tooth base) (c_is_int base) e_BadNumber
  obtain ⟨fd, F⟩ := c.def_ 23 (d := D_law) rfl
  have e := hfa.symm.trans (He.glo_ok X G (c.fact 23 (f := .glo "law") rfl))
  cases e
  have b := FunD.bindsA (ps := ["_law_script"]) F fun _ _ _ _ _ _ us hl => match us, hl with | [_], _ => rfl
  exact ⟨fd, fun s v => b s [v] rfl, fun base _ _ => ok_law ⟨F⟩ (c__law_start base) (c__law_gear base) (c_length base) (c_centre base) (c__law_moved base) (c__law_draw base) (c_mark_direction base) (c__law_low base) (c__law_pick base) (c_tip_at base) m_range⟩
end Wc
open PySem PySem.W PySem.Calls PyProof.Rows
set_option maxRecDepth 100000 in
set_option maxHeartbeats 0 in
theorem PySem.Challenge.cw_wheelcurves_k15_whole_directions_holds : PySem.Challenge.rw_wheelcurves_k15_whole_directions.Holds := by
  w_on; o_law
  refine HandSHeadRun.head_any (r := OpenLaw.row PySem.Challenge.rw_wheelcurves_k15_whole_directions) (q := view (OpenLaw.row PySem.Challenge.rw_wheelcurves_k15_whole_directions).prog [33]) (H := Wc.hk) (ob := Wc.ob) (M := 6000) (loose := Wc.looseL) (d := HandSHeadRun.topDef (OpenLaw.row PySem.Challenge.rw_wheelcurves_k15_whole_directions).prog 33) (kwd := []) Wc.ob_eq
    (by kernel_rfl) (fun s => by kernel_rfl) Wc.run (by kernel_rfl) (by kernel_rfl) (by kernel_rfl) (by rfl) (by first | assumption | decide +kernel) (by decide +kernel) ⟨rfl, rfl, rfl, rfl, rfl, by decide +kernel⟩ ?hw ?hc
  case hw => w_witness2
  case hc =>
    refine L2.walk_ofE (l := PySem.Challenge.rw_wheelcurves_k15_whole_directions) (n := 63) (k := 6) (x := "_law_script") (CX := fun o H s E u s' => ∃ P w, L2.CX P w o H s E u s') rfl (by decide) (by kernel_rfl) ⟨rfl, by decide, by decide⟩ ?F ?C
    case C =>
      intro H s e s' h
      obtain ⟨_, _, _, _, _, _, _, _, _, _, _, _, _, _, z⟩ := h
      exact z.elim
    case F =>
      intro w mg fa h Y G hmg0
      obtain ⟨K, KX, c⟩ := Y
      have hmg : mg ("law" : PySem.Str) = some (.ref fa) := by
        have e : (HandSHeadRun.topDef (OpenLaw.row PySem.Challenge.rw_wheelcurves_k15_whole_directions).prog 33).name = ("law" : PySem.Str) := by kernel_rfl
        rw [← e]
        exact hmg0
      obtain ⟨fd, hb, hF⟩ := Wc.facts (P := (PySem.Challenge.rw_wheelcurves_k15_whole_directions).prog) (w := w) KX G hmg c
      exact ⟨K, fd, Wc.spLaw K, KX, hb, fun H a ns hl _ hS => ⟨a, ns, rfl, hS, hl, fun _ => rfl⟩, fun base k1 k2 => Wc.fnok_any (hF base k1 k2)⟩


