import PyProof.Rows.All
import Wide.All
import OpenK.AllK
import Wide.FinOn
import KE.KStateDown
import HandS.ForMost
import HandS.Walk
import HandS.Conv
import HandS.Wide
import HandS.IsInst
import HandS.Style
import HandS.SortInts
import HandS.Rev
import HandS.Base
import HandS.Call
import HandS.Ends
import HandS.More
import HandS.Words
import HandS.WordsExc
import HandS.Defaults
import HandS.Head0
import HandS.Head1
import HandS.Head2
import HandS.HeadEnd
import HandS.HeadHook1
import HandS.HeadHook2
import HandS.Head3
import PyProof.Draws
import PyProof.EnumMake
import PyProof.ReprRoads
import HandS.TryOnly
import HandS.Flt
import HandS.Zip
import HandS.TupAny
import HandS.TupMul
import HandS.TupLen
import HandS.Star
import HandS.Iter
import HandS.Dict
import HandS.Flow
import HandS.ListItems
import HandS.DictTup
import HandS.SortRule
import HandS.RaiseMore
import HandS.SetFor
import PyProof.EqAt
import HandS.Conv
import PySem.Challenge.RW_sparesum_k40_whole_three_values_kept
set_option Elab.async false
set_option linter.all false
set_option maxRecDepth 100000
set_option maxHeartbeats 1600000
namespace L40
open PySem PySem.Spec PyProof.Rows L2
abbrev PW := PySem.Challenge.pw_sparesum_k40_whole_three_values_kept
def top (i : Nat) : Stmt := PW.main.body.getD i (.Pass ⟨0, 0, 0, 0⟩)

/-! the head's look, by fewer addresses -/
def kidX (o : Option Obj) : List Addr := match o with
  | none => []
  | some o => (match o.data with
    | .dict es _ => es.toList.flatMap fun e => He.refV e.val
    | .func fd => He.refV fd.code
    | .cls cd => [cd.ns]
    | _ => [])
def kidsX (g : Addr → Option Obj) (as : List Addr) : List Addr := as.flatMap fun a => kidX (g a)
def asX (g : Addr → Option Obj) : Nat → List Addr → List Addr
  | 0, l => l
  | n + 1, l => l ++ asX g n (kidsX g l)
def obsX (n : Nat) (fa : List He.Fa) (fn : List He.DefD) (g : Addr → Option Obj) : He.AlD := He.obsD fa fn (He.frG g (asX g n [mainGlobals]))
def hookX (n : Nat) (fa : List He.Fa) (fn : List He.DefD) : PySem.W.Hook where
  α := He.AlD
  obs := fun s => obsX n fa fn s.heap.get?
  val := fun _ => He.valD fn
  says := fun _ h => ∃ K1 : PySem.W.Frag, K1.In h ∧ He.SaysD fa fn K1
  of := fun _ _ e => ⟨_, He.frG_in, e⟩
  keeps := fun _ _ _ ⟨K1, z1, z2⟩ z3 => ⟨K1, PySem.W.Frag.In.keeps z1 z3, z2⟩
theorem obsX_eq {n : Nat} {fa : List He.Fa} {fn : List He.DefD} {g : Addr → Option Obj} {s : Shared} (h : ∀ a, g a = s.heap.get? a) : obsX n fa fn g = (hookX n fa fn).obs s := by
  have e0 : g = s.heap.get? := funext h
  rw [e0] <;> rfl

def dD (x : Str) (i : Nat) : He.DefD := ⟨(x, none), x, x, defArgs (top i), defBody (top i), defScope (top i), [], []⟩
abbrev RWL := PySem.Challenge.rw_sparesum_k40_whole_three_values_kept
def fn : List He.DefD := [dD "is_whole" 6, dD "is_between" 7, dD "is_list" 8, dD "check_few" 12, dD "following" 13, dD "is_left_at" 14, dD "left_by" 15, dD "check_three" 16, dD "check_left" 17, dD "three_can_be_left" 18, dD "told_of_two" 19, dD "told_and_writes" 20, dD "three_told" 21, dD "three_mending" 22, dD "three_steps" 23, dD "_law_cell" 25, dD "_law_box" 26, dD "_law_take" 27, dD "_law_form" 28, dD "_law_reading" 29, dD "_law_new_row" 30, dD "_law_passed" 31, dD "_law_told_right" 32, dD "_law_content" 33, dD "_law_losses" 34, dD "_law_written" 35, dD "_law_opened" 36, dD "_law_rests" 37, dD "_law_change" 38, dD "law" 39]
def fa : List He.Fa := [.glo "is_whole", .glo "is_between", .glo "is_list", .glo "check_few", .glo "following", .glo "is_left_at", .glo "left_by", .glo "check_three", .glo "check_left", .glo "three_can_be_left", .glo "told_of_two", .glo "told_and_writes", .glo "three_told", .glo "three_mending", .glo "three_steps", .glo "_law_cell", .glo "_law_box", .glo "_law_take", .glo "_law_form", .glo "_law_reading", .glo "_law_new_row", .glo "_law_passed", .glo "_law_told_right", .glo "_law_content", .glo "_law_losses", .glo "_law_written", .glo "_law_opened", .glo "_law_rests", .glo "_law_change", .glo "law", .free "bool", .free "int", .free "isinstance", .free "list", .free "tuple", .free "all", .free "len", .free "any", .free "range", .free "enumerate", .free "sum", .free "abs", .free "repr", .free "max", .free "min", .int "MOST_CONTENT" 996, .int "MOST_SEEN" 64]
def names : List Str := "SumError" :: "InvalidView" :: "InvalidValue" :: "TooFew" :: "is_whole" :: "is_between" :: "is_list" :: "MOST_SEEN" :: "MOST_CONTENT" :: "check_few" :: "following" :: "is_left_at" :: "left_by" :: "check_three" :: "check_left" :: "three_can_be_left" :: "told_of_two" :: "told_and_writes" :: "three_told" :: "three_mending" :: "three_steps" :: "_law_cell" :: "_law_box" :: "_law_take" :: "_law_form" :: "_law_reading" :: "_law_new_row" :: "_law_passed" :: "_law_told_right" :: "_law_content" :: "_law_losses" :: "_law_written" :: "_law_opened" :: "_law_rests" :: "_law_change" :: []
abbrev RoW : PySem.W.OpenRow := PySem.W.OpenLaw.row RWL
abbrev hk : PySem.W.Hook := hookX 4 fa fn
def ob (s : PySem.W.SharedT) : He.AlD := obsX 4 fa fn (HandSHeadRun.getT s)
theorem ob_eq (s : PySem.W.SharedT) : ob s = hk.obs s.abs := obsX_eq (HandSHeadRun.getT_eq s)

set_option maxHeartbeats 0 in
theorem run (w : World) : HandSHeadRun.RunEq RoW (PySem.W.view RoW.prog [39]) hk ob 20000 names w := by
  intro os
  kernel_rfl

end L40
/-! Mir1: the heap in two parts, persistent and owned; slots; the monad of mirrors -/
namespace Mir
open PySem L2

/-! ### heaps -/
def Ex (H H' : Hp) : Prop := ∀ a o, H a = some o → H' a = some o
theorem Ex.refl (H : Hp) : Ex H H := fun _ _ h => h
theorem Ex.trans {H H1 H2 : Hp} (a : Ex H H1) (b : Ex H1 H2) : Ex H H2 := fun x o h => b x o (a x o h)
def ov (M I : Hp) : Hp := fun a => match M a with
  | some o => some o
  | none => I a
def Dis (M I : Hp) : Prop := ∀ a, M a = none ∨ I a = none
def emp : Hp := fun _ => none
def sing (a : Addr) (o : HO) : Hp := upd emp a o
theorem ov_l {M I : Hp} {a : Addr} {o : HO} (h : M a = some o) : ov M I a = some o := by
  unfold ov; rw [h]
theorem ov_r {M I : Hp} {a : Addr} (h : M a = none) : ov M I a = I a := by
  unfold ov; rw [h]
theorem ov_none {M I : Hp} {a : Addr} (h : ov M I a = none) : M a = none ∧ I a = none := by
  cases e : M a with
  | none => rw [ov_r e] at h; exact ⟨rfl, h⟩
  | some o => rw [ov_l e] at h; cases h
theorem ov_none' {M I : Hp} {a : Addr} (h1 : M a = none) (h2 : I a = none) : ov M I a = none := by rw [ov_r h1, h2]
theorem Dis.symm {M I : Hp} (d : Dis M I) : Dis I M := fun a => (d a).symm
theorem Dis.some_l {M I : Hp} {a : Addr} {o : HO} (d : Dis M I) (h : M a = some o) : I a = none := by
  rcases d a with q | q
  · rw [q] at h; cases h
  · exact q
theorem Dis.some_r {M I : Hp} {a : Addr} {o : HO} (d : Dis M I) (h : I a = some o) : M a = none := d.symm.some_l h
theorem ex_ov {M I : Hp} (d : Dis M I) : Ex I (ov M I) := fun a o h => by rw [ov_r (d.some_r h)]; exact h
theorem ex_ovl {M I : Hp} : Ex M (ov M I) := fun a o h => ov_l h
theorem ov_comm {M I : Hp} (d : Dis M I) : ov M I = ov I M := by
  funext a
  cases e : M a with
  | some o => rw [ov_l e, ov_r (d.some_l e), e]
  | none =>
    rw [ov_r e]
    cases e2 : I a with
    | some o => rw [ov_l e2]
    | none => rw [ov_r e2, e]
theorem ov_assoc {A B C : Hp} : ov A (ov B C) = ov (ov A B) C := by
  funext a
  unfold ov
  cases A a <;> rfl
theorem dis_ov_l {A B C : Hp} (h : Dis (ov A B) C) : Dis A C ∧ Dis B C := by
  refine ⟨fun a => ?_, fun a => ?_⟩
  · rcases h a with q | q
    · exact .inl (ov_none q).1
    · exact .inr q
  · rcases h a with q | q
    · exact .inl (ov_none q).2
    · exact .inr q
theorem dis_ov {A B C : Hp} (h1 : Dis A C) (h2 : Dis B C) : Dis (ov A B) C := fun a => by
  rcases h1 a with q | q
  · rcases h2 a with r | r
    · exact .inl (ov_none' q r)
    · exact .inr r
  · exact .inr q
theorem dis_ov_r {A B C : Hp} (h1 : Dis A B) (h2 : Dis A C) : Dis A (ov B C) := (dis_ov h1.symm h2.symm).symm
theorem dis_r_ov {A B C : Hp} (h : Dis A (ov B C)) : Dis A B ∧ Dis A C := ⟨(dis_ov_l h.symm).1.symm, (dis_ov_l h.symm).2.symm⟩
theorem Ex.new {H : Hp} {p : Addr} {o : HO} (h : H p = none) : Ex H (upd H p o) := fun a u e => by
  rw [upd_ne (ne_of_none e h)]; exact e
theorem ov_upd {M I : Hp} {p : Addr} {o : HO} (h : M p = none) : upd (ov M I) p o = ov M (upd I p o) := by
  funext a
  by_cases e : a = p
  · subst e; rw [upd_same, ov_r h, upd_same]
  · rw [upd_ne e]
    cases q : M a with
    | some o => rw [ov_l q, ov_l q]
    | none => rw [ov_r q, ov_r q, upd_ne e]
theorem dis_upd {M I : Hp} {p : Addr} {o : HO} (d : Dis M I) (h : M p = none) : Dis M (upd I p o) := fun a => by
  by_cases e : a = p
  · subst e; exact .inl h
  · rw [upd_ne e]; exact d a
theorem sing_same {a : Addr} {o : HO} : sing a o a = some o := upd_same
theorem sing_ne {a b : Addr} {o : HO} (h : b ≠ a) : sing a o b = none := upd_ne h
theorem upd_sing {M I : Hp} {p : Addr} {o : HO} : upd (ov M I) p o = ov (sing p o) (ov M I) := by
  funext a
  by_cases e : a = p
  · subst e; rw [upd_same, ov_l sing_same]
  · rw [upd_ne e, ov_r (sing_ne e)]
theorem ov_sing {I : Hp} {p : Addr} {o : HO} : ov (sing p o) I = upd I p o := by
  funext a
  by_cases e : a = p
  · subst e; rw [upd_same, ov_l sing_same]
  · rw [upd_ne e, ov_r (sing_ne e)]
theorem dis_sing {I : Hp} {p : Addr} {o : HO} (h : I p = none) : Dis (sing p o) I := fun a => by
  by_cases e : a = p
  · subst e; exact .inr h
  · exact .inl (sing_ne e)
/-- an owned object changes -/
theorem upd_own {p : Addr} {o o' : HO} {M I : Hp} : upd (ov (ov (sing p o) M) I) p o' = ov (ov (sing p o') M) I := by
  funext a
  by_cases e : a = p
  · subst e; rw [upd_same]; exact (ov_l (ov_l sing_same)).symm
  · rw [upd_ne e]
    unfold ov
    rw [sing_ne e, sing_ne e]

/-! ### what is known of values, of owned parts -/
structure PV where
  r : Hp → V → Prop
  up : ∀ {H H' : Hp} {v : V}, Ex H H' → r H v → r H' v
structure OP where
  r : Hp → Addr → Hp → Prop
  up : ∀ {H H' : Hp} {a : Addr} {M : Hp}, Ex H H' → r H a M → r H' a M
/-- a Lean type as Python values -/
class Rp (α : Type) where
  r : PySem.W.Frag → α → Hp → V → Prop
  up : ∀ {K : PySem.W.Frag} {x : α} {H H' : Hp} {v : V}, Ex H H' → r K x H v → r K x H' v
/-- values that no heap is asked for -/
class Sc (α : Type) [Rp α] where
  s : α → V
  eq : ∀ {K : PySem.W.Frag} {x : α} {H : Hp} {v : V}, Rp.r K x H v ↔ v = s x
def pv (K : PySem.W.Frag) {α : Type} [Rp α] (x : α) : PV := ⟨Rp.r K x, Rp.up⟩
instance rpInt : Rp Int := ⟨fun _ x _ v => v = V.int x, fun _ h => h⟩
instance scInt : Sc Int := ⟨V.int, Iff.rfl⟩
instance rpBool : Rp Bool := ⟨fun _ x _ v => v = V.bl x, fun _ h => h⟩
instance scBool : Sc Bool := ⟨V.bl, Iff.rfl⟩
instance rpUnit : Rp Unit := ⟨fun _ _ _ v => v = V.non, fun _ h => h⟩
instance scUnit : Sc Unit := ⟨fun _ => V.non, Iff.rfl⟩
instance rpStr : Rp Str := ⟨fun _ x _ v => v = V.str x, fun _ h => h⟩
instance scStr : Sc Str := ⟨V.str, Iff.rfl⟩
inductive All2 {α β : Type} (F : α → β → Prop) : List α → List β → Prop where
  | nil : All2 F [] []
  | cons {a : α} {b : β} {as : List α} {bs : List β} : F a b → All2 F as bs → All2 F (a :: as) (b :: bs)
section
variable {α β : Type} {F G : α → β → Prop}
theorem All2.imp (f : ∀ a b, F a b → G a b) : ∀ {as : List α} {bs : List β}, All2 F as bs → All2 G as bs
  | _, _, .nil => .nil
  | _, _, .cons h t => .cons (f _ _ h) (All2.imp f t)
theorem All2.length : ∀ {as : List α} {bs : List β}, All2 F as bs → as.length = bs.length
  | _, _, .nil => rfl
  | _, _, .cons _ t => congrArg Nat.succ (All2.length t)
theorem All2.get : ∀ {as : List α} {bs : List β}, All2 F as bs → ∀ {i : Nat} {a : α}, as[i]? = some a → ∃ b, bs[i]? = some b ∧ F a b
  | _, _, .nil, i, a, h => by simp at h
  | _, _, .cons h t, 0, a, e => by
    cases (Option.some.inj e)
    exact ⟨_, rfl, h⟩
  | _, _, .cons h t, i + 1, a, e => by
    obtain ⟨b, h1, h2⟩ := All2.get t (i := i) (by simpa using e)
    exact ⟨b, by simpa using h1, h2⟩
theorem All2.get' : ∀ {as : List α} {bs : List β}, All2 F as bs → ∀ {i : Nat} {b : β}, bs[i]? = some b → ∃ a, as[i]? = some a ∧ F a b
  | _, _, .nil, i, a, h => by simp at h
  | _, _, .cons h t, 0, a, e => by
    cases (Option.some.inj e)
    exact ⟨_, rfl, h⟩
  | _, _, .cons h t, i + 1, a, e => by
    obtain ⟨b, h1, h2⟩ := All2.get' t (i := i) (by simpa using e)
    exact ⟨b, by simpa using h1, h2⟩
theorem All2.append : ∀ {as cs : List α} {bs ds : List β}, All2 F as bs → All2 F cs ds → All2 F (as ++ cs) (bs ++ ds)
  | _, _, _, _, .nil, s => s
  | _, _, _, _, .cons h t, s => .cons h (All2.append t s)
theorem All2.set {a : α} {b : β} (h : F a b) : ∀ {as : List α} {bs : List β} (i : Nat), All2 F as bs → All2 F (as.set i a) (bs.set i b)
  | _, _, _, .nil => .nil
  | _, _, 0, .cons _ t => .cons h t
  | _, _, i + 1, .cons q t => .cons q (All2.set h i t)
theorem All2.take : ∀ {as : List α} {bs : List β} (n : Nat), All2 F as bs → All2 F (as.take n) (bs.take n)
  | _, _, 0, _ => .nil
  | _, _, _ + 1, .nil => .nil
  | _, _, n + 1, .cons h t => .cons h (All2.take n t)
theorem All2.drop : ∀ {as : List α} {bs : List β} (n : Nat), All2 F as bs → All2 F (as.drop n) (bs.drop n)
  | _, _, 0, s => s
  | _, _, _ + 1, .nil => .nil
  | _, _, n + 1, .cons _ t => All2.drop n t
theorem All2.reverse : ∀ {as : List α} {bs : List β}, All2 F as bs → All2 F as.reverse bs.reverse
  | _, _, .nil => .nil
  | _, _, .cons h t => by
    rw [List.reverse_cons, List.reverse_cons]
    exact (All2.reverse t).append (.cons h .nil)
theorem All2.eraseIdx : ∀ {as : List α} {bs : List β} (i : Nat), All2 F as bs → All2 F (as.eraseIdx i) (bs.eraseIdx i)
  | _, _, _, .nil => .nil
  | _, _, 0, .cons _ t => t
  | _, _, i + 1, .cons q t => .cons q (All2.eraseIdx i t)
theorem All2.dropLast {as : List α} {bs : List β} (h : All2 F as bs) : All2 F as.dropLast bs.dropLast := by
  rw [List.dropLast_eq_take, List.dropLast_eq_take, ← h.length]
  exact h.take _
theorem All2.replicate {a : α} {b : β} (h : F a b) : ∀ n : Nat, All2 F (List.replicate n a) (List.replicate n b)
  | 0 => .nil
  | n + 1 => .cons h (All2.replicate h n)
theorem All2.map_r {g : α → β} (h : ∀ a, F a (g a)) : ∀ as : List α, All2 F as (as.map g)
  | [] => .nil
  | a :: as => .cons (h a) (All2.map_r h as)
theorem All2.eq_map {g : α → β} (h : ∀ a b, F a b → b = g a) : ∀ {as : List α} {bs : List β}, All2 F as bs → bs = as.map g
  | _, _, .nil => rfl
  | _, _, .cons q t => by rw [h _ _ q, All2.eq_map h t]; rfl
end
theorem rd_up {H H' : Hp} {a : Addr} {u : HO} (e : Ex H H') (h : Rd H a u) : Rd H' a u := by
  rcases h with h | ⟨o, h⟩
  · exact .inl (e a _ h)
  · exact .inr ⟨o, e a _ h⟩
theorem sql_up {K : PySem.W.Frag} {H H' : Hp} {a : Addr} {xs : List V} (e : Ex H H') (h : SqL K H a xs) : SqL K H' a xs := by
  rcases h with h | h
  · exact .inl (rd_up e h)
  · exact .inr h
theorem sqt_up {K : PySem.W.Frag} {H H' : Hp} {a : Addr} {xs : List V} (e : Ex H H') (h : SqT K H a xs) : SqT K H' a xs := by
  rcases h with h | h
  · exact .inl (rd_up e h)
  · exact .inr h
/-- a list of them -/
abbrev Rs (K : PySem.W.Frag) {α : Type} [Rp α] (xs : List α) (H : Hp) (vs : List V) : Prop := All2 (fun x v => Rp.r K x H v) xs vs
theorem rs_up {K : PySem.W.Frag} {α : Type} [Rp α] {xs : List α} {H H' : Hp} {vs : List V} (e : Ex H H') (h : Rs K xs H vs) : Rs K xs H' vs := h.imp fun _ _ q => Rp.up e q
theorem rs_sc {K : PySem.W.Frag} {α : Type} [Rp α] [Sc α] {xs : List α} {H : Hp} {vs : List V} (h : Rs K xs H vs) : vs = xs.map Sc.s := h.eq_map fun _ _ q => Sc.eq.mp q
theorem rs_int {K : PySem.W.Frag} {xs : List Int} {H : Hp} {vs : List V} (h : Rs K xs H vs) : vs = xs.map V.int := rs_sc h
theorem rs_of_int {K : PySem.W.Frag} {xs : List Int} {H : Hp} : Rs K xs H (xs.map V.int) := All2.map_r (F := fun x v => v = V.int x) (g := V.int) (fun _ => rfl) xs
instance rpList {α : Type} [Rp α] : Rp (List α) := ⟨fun K xs H v => ∃ a vs, v = V.ref a ∧ H a = some (.lst vs) ∧ Rs K xs H vs, fun e ⟨a, vs, h1, h2, h3⟩ => ⟨a, vs, h1, e _ _ h2, rs_up e h3⟩⟩
/-- the script -/
structure Scr where
  l : List Int
instance rpScr : Rp Scr := ⟨fun K x H v => ∃ a, v = V.ref a ∧ SqL K H a (x.l.map V.int), fun e ⟨a, h1, h2⟩ => ⟨a, h1, sql_up e h2⟩⟩
/-- a tuple of items of one type -/
structure Tu (α : Type) where
  l : List α
  deriving DecidableEq
instance rpTu {α : Type} [Rp α] : Rp (Tu α) := ⟨fun K xs H v => ∃ a vs, v = V.ref a ∧ SqT K H a vs ∧ Rs K xs.l H vs, fun e ⟨a, vs, h1, h2, h3⟩ => ⟨a, vs, h1, sqt_up e h2, rs_up e h3⟩⟩
/-- tuples of two to five parts -/
instance rpProd {α β : Type} [Rp α] [Rp β] : Rp (α × β) := ⟨fun K x H v => ∃ a v1 v2, v = V.ref a ∧ SqT K H a [v1, v2] ∧ Rp.r K x.1 H v1 ∧ Rp.r K x.2 H v2, fun e ⟨a, v1, v2, h1, h2, h3, h4⟩ => ⟨a, v1, v2, h1, sqt_up e h2, Rp.up e h3, Rp.up e h4⟩⟩
structure T3 (α β γ : Type) where
  a : α
  b : β
  c : γ
  deriving DecidableEq
structure T4 (α β γ δ : Type) where
  a : α
  b : β
  c : γ
  d : δ
  deriving DecidableEq
structure T5 (α β γ δ ε : Type) where
  a : α
  b : β
  c : γ
  d : δ
  e : ε
  deriving DecidableEq
instance rpT3 {α β γ : Type} [Rp α] [Rp β] [Rp γ] : Rp (T3 α β γ) := ⟨fun K x H v => ∃ p v1 v2 v3, v = V.ref p ∧ SqT K H p [v1, v2, v3] ∧ Rp.r K x.a H v1 ∧ Rp.r K x.b H v2 ∧ Rp.r K x.c H v3,
  fun e ⟨p, v1, v2, v3, h1, h2, h3, h4, h5⟩ => ⟨p, v1, v2, v3, h1, sqt_up e h2, Rp.up e h3, Rp.up e h4, Rp.up e h5⟩⟩
instance rpT4 {α β γ δ : Type} [Rp α] [Rp β] [Rp γ] [Rp δ] : Rp (T4 α β γ δ) := ⟨fun K x H v => ∃ p v1 v2 v3 v4, v = V.ref p ∧ SqT K H p [v1, v2, v3, v4] ∧ Rp.r K x.a H v1 ∧ Rp.r K x.b H v2 ∧ Rp.r K x.c H v3 ∧ Rp.r K x.d H v4,
  fun e ⟨p, v1, v2, v3, v4, h1, h2, h3, h4, h5, h6⟩ => ⟨p, v1, v2, v3, v4, h1, sqt_up e h2, Rp.up e h3, Rp.up e h4, Rp.up e h5, Rp.up e h6⟩⟩
instance rpT5 {α β γ δ ε : Type} [Rp α] [Rp β] [Rp γ] [Rp δ] [Rp ε] : Rp (T5 α β γ δ ε) := ⟨fun K x H v => ∃ p v1 v2 v3 v4 v5, v = V.ref p ∧ SqT K H p [v1, v2, v3, v4, v5] ∧ Rp.r K x.a H v1 ∧ Rp.r K x.b H v2 ∧ Rp.r K x.c H v3 ∧ Rp.r K x.d H v4 ∧ Rp.r K x.e H v5,
  fun e ⟨p, v1, v2, v3, v4, v5, h1, h2, h3, h4, h5, h6, h7⟩ => ⟨p, v1, v2, v3, v4, v5, h1, sqt_up e h2, Rp.up e h3, Rp.up e h4, Rp.up e h5, Rp.up e h6, Rp.up e h7⟩⟩
/-- None, or a value -/
instance rpOpt {α : Type} [Rp α] : Rp (Option α) := ⟨fun K x H v => match x with
  | none => v = V.non
  | some y => Rp.r K y H v ∧ v ≠ V.non, fun {K x H H' v} e h => by
    cases x with
    | none => exact h
    | some y => exact ⟨Rp.up e h.1, h.2⟩⟩

/-! ### owned parts -/
/-- a list whose items are written values -/
def hl (vs : List V) : OP := ⟨fun _ a M => M = sing a (.lst vs), fun _ h => h⟩
/-- a list -/
def ol (K : PySem.W.Frag) {α : Type} [Rp α] (xs : List α) : OP := ⟨fun I a M => ∃ vs, M = sing a (.lst vs) ∧ Rs K xs I vs, fun e ⟨vs, h1, h2⟩ => ⟨vs, h1, rs_up e h2⟩⟩
/-- what stands at an address -/
def OP.at (P : OP) (v : V) : OP := ⟨fun I a M => v = V.ref a ∧ P.r I a M, fun e ⟨h1, h2⟩ => ⟨h1, P.up e h2⟩⟩

/-! ### slots -/
inductive Sl where
  | no
  | im (p : PV)
  | ow (p : OP)
/-- F: what is owned besides; M: F and the slots' own parts -/
inductive EnvOk (I F : Hp) : Hp → St → List Sl → Prop where
  | nil : EnvOk I F F [] []
  | no {M : Hp} {σ : St} {Γ : List Sl} (o : Option V) : EnvOk I F M σ Γ → EnvOk I F M (o :: σ) (.no :: Γ)
  | im {M : Hp} {σ : St} {Γ : List Sl} {p : PV} {v : V} : p.r I v → EnvOk I F M σ Γ → EnvOk I F M (some v :: σ) (.im p :: Γ)
  | ow {M : Hp} {σ : St} {Γ : List Sl} {p : OP} {a : Addr} {Ma : Hp} : p.r I a Ma → Dis Ma M → EnvOk I F M σ Γ → EnvOk I F (ov Ma M) (some (.ref a) :: σ) (.ow p :: Γ)
section
variable {I F M : Hp} {σ : St} {Γ : List Sl}
theorem EnvOk.up {I' : Hp} (e : Ex I I') : ∀ {M : Hp} {σ : St} {Γ : List Sl}, EnvOk I F M σ Γ → EnvOk I' F M σ Γ
  | _, _, _, .nil => .nil
  | _, _, _, .no o h => .no o (EnvOk.up e h)
  | _, _, _, .im q h => .im (PV.up _ e q) (EnvOk.up e h)
  | _, _, _, .ow q d h => .ow (OP.up _ e q) d (EnvOk.up e h)
theorem EnvOk.len : ∀ {M : Hp} {σ : St} {Γ : List Sl}, EnvOk I F M σ Γ → σ.length = Γ.length
  | _, _, _, .nil => rfl
  | _, _, _, .no o h => congrArg Nat.succ (EnvOk.len h)
  | _, _, _, .im q h => congrArg Nat.succ (EnvOk.len h)
  | _, _, _, .ow q d h => congrArg Nat.succ (EnvOk.len h)
theorem EnvOk.get : ∀ {M : Hp} {σ : St} {Γ : List Sl}, EnvOk I F M σ Γ → ∀ {i : Nat} {p : PV}, Γ[i]? = some (.im p) → ∃ v, σ[i]? = some (some v) ∧ p.r I v
  | _, _, _, .nil, i, p, h => by simp at h
  | _, _, _, .no o h, 0, p, e => by simp at e
  | _, _, _, .no o h, i + 1, p, e => EnvOk.get h (i := i) (by simpa using e)
  | _, _, _, .im q h, 0, p, e => by
    cases (Sl.im.inj (Option.some.inj e))
    exact ⟨_, rfl, q⟩
  | _, _, _, .im q h, i + 1, p, e => EnvOk.get h (i := i) (by simpa using e)
  | _, _, _, .ow q d h, 0, p, e => by simp at e
  | _, _, _, .ow q d h, i + 1, p, e => EnvOk.get h (i := i) (by simpa using e)
/-- an owned slot: its part, and what may be put in its place -/
theorem EnvOk.foc : ∀ {M : Hp} {σ : St} {Γ : List Sl}, EnvOk I F M σ Γ → ∀ {i : Nat} {p : OP}, Γ[i]? = some (.ow p) → ∃ a Ma M', σ[i]? = some (some (.ref a)) ∧ p.r I a Ma ∧ Dis Ma M' ∧ M = ov Ma M' ∧
    (∀ I' p' Ma', Ex I I' → Dis Ma' M' → p'.r I' a Ma' → EnvOk I' F (ov Ma' M') σ (Γ.set i (.ow p'))) ∧ (∀ I' p', Ex I I' → PV.r p' I' (.ref a) → EnvOk I' F M' σ (Γ.set i (.im p'))) ∧ (∀ I', Ex I I' → EnvOk I' F M' σ (Γ.set i .no))
  | _, _, _, .nil, i, p, h => by simp at h
  | _, _, _, .no o h, 0, p, e => by simp at e
  | _, _, _, .im q h, 0, p, e => by simp at e
  | _, _, _, .ow q d h, 0, p, e => by
    cases (Sl.ow.inj (Option.some.inj e))
    exact ⟨_, _, _, rfl, q, d, rfl, fun I' p' Ma' e d' q' => .ow q' d' (h.up e), fun I' p' e q' => .im q' (h.up e), fun I' e => .no _ (h.up e)⟩
  | _, _, _, .no o h, i + 1, p, e => by
    obtain ⟨a, Ma, M', h1, h2, h3, h4, h5, h6, h7⟩ := EnvOk.foc h (i := i) (by simpa using e)
    exact ⟨a, Ma, M', by simpa using h1, h2, h3, h4, fun I' p' Ma' x1 x2 x3 => .no o (h5 I' p' Ma' x1 x2 x3), fun I' p' x1 x2 => .no o (h6 I' p' x1 x2), fun I' x1 => .no o (h7 I' x1)⟩
  | _, _, _, .im q h, i + 1, p, e => by
    obtain ⟨a, Ma, M', h1, h2, h3, h4, h5, h6, h7⟩ := EnvOk.foc h (i := i) (by simpa using e)
    exact ⟨a, Ma, M', by simpa using h1, h2, h3, h4, fun I' p' Ma' x1 x2 x3 => .im (PV.up _ x1 q) (h5 I' p' Ma' x1 x2 x3), fun I' p' x1 x2 => .im (PV.up _ x1 q) (h6 I' p' x1 x2), fun I' x1 => .im (PV.up _ x1 q) (h7 I' x1)⟩
  | _, _, _, .ow (Ma := Mb) q d h, i + 1, p, e => by
    obtain ⟨a, Ma, M', h1, h2, h3, h4, h5, h6, h7⟩ := EnvOk.foc h (i := i) (by simpa using e)
    subst h4
    obtain ⟨d1, d2⟩ := dis_r_ov d
    refine ⟨a, Ma, ov Mb M', by simpa using h1, h2, dis_ov_r d1.symm h3, ?_, fun I' p' Ma' x1 x2 x3 => ?_, fun I' p' x1 x2 => .ow (OP.up _ x1 q) d2 (h6 I' p' x1 x2), fun I' x1 => .ow (OP.up _ x1 q) d2 (h7 I' x1)⟩
    · rw [ov_assoc, ov_assoc, ov_comm d1]
    · obtain ⟨y1, y2⟩ := dis_r_ov x2
      have e2 : ov Ma' (ov Mb M') = ov Mb (ov Ma' M') := by rw [ov_assoc, ov_assoc, ov_comm y1]
      rw [e2]
      exact .ow (OP.up _ x1 q) (dis_ov_r y1.symm d2) (h5 I' p' Ma' x1 y2 x3)
def isOw : Sl → Bool
  | .ow _ => true
  | _ => false
/-- the slot owns nothing -/
def NotOw (Γ : List Sl) (i : Nat) : Prop := (Γ[i]?.map isOw).getD false = false
theorem EnvOk.set {v : V} {p : PV} (q : p.r I v) : ∀ {M : Hp} {σ : St} {Γ : List Sl} {i : Nat}, EnvOk I F M σ Γ → NotOw Γ i → EnvOk I F M (σ.set i (some v)) (Γ.set i (.im p))
  | _, _, _, _, .nil, _ => .nil
  | _, _, _, 0, .no o h, _ => .im q h
  | _, _, _, 0, .im _ h, _ => .im q h
  | _, _, _, 0, .ow _ _ h, e => by simp [NotOw, isOw] at e
  | _, _, _, i + 1, .no o h, e => .no o (EnvOk.set q (i := i) h (by simpa [NotOw] using e))
  | _, _, _, i + 1, .im r h, e => .im r (EnvOk.set q (i := i) h (by simpa [NotOw] using e))
  | _, _, _, i + 1, .ow r d h, e => .ow r d (EnvOk.set q (i := i) h (by simpa [NotOw] using e))
theorem EnvOk.setNo {o : Option V} : ∀ {M : Hp} {σ : St} {Γ : List Sl} {i : Nat}, EnvOk I F M σ Γ → NotOw Γ i → EnvOk I F M (σ.set i o) (Γ.set i .no)
  | _, _, _, _, .nil, _ => .nil
  | _, _, _, 0, .no _ h, _ => .no o h
  | _, _, _, 0, .im _ h, _ => .no o h
  | _, _, _, 0, .ow _ _ h, e => by simp [NotOw, isOw] at e
  | _, _, _, i + 1, .no o h, e => .no o (EnvOk.setNo (i := i) h (by simpa [NotOw] using e))
  | _, _, _, i + 1, .im r h, e => .im r (EnvOk.setNo (i := i) h (by simpa [NotOw] using e))
  | _, _, _, i + 1, .ow r d h, e => .ow r d (EnvOk.setNo (i := i) h (by simpa [NotOw] using e))
/-- a slot takes an owned part -/
theorem EnvOk.take {a : Addr} {p : OP} {Ma : Hp} (q : p.r I a Ma) : ∀ {M : Hp} {σ : St} {Γ : List Sl} {i : Nat}, EnvOk I F M σ Γ → NotOw Γ i → i < Γ.length → Dis Ma M → EnvOk I F (ov Ma M) (σ.set i (some (.ref a))) (Γ.set i (.ow p))
  | _, _, _, _, .nil, _, l, _ => by simp at l
  | _, _, _, 0, .no o h, _, _, d => .ow q d h
  | _, _, _, 0, .im _ h, _, _, d => .ow q d h
  | _, _, _, 0, .ow _ _ h, e, _, _ => by simp [NotOw, isOw] at e
  | _, _, _, i + 1, .no o h, e, l, d => .no o (EnvOk.take q (i := i) h (by simpa [NotOw] using e) (by simpa using l) d)
  | _, _, _, i + 1, .im r h, e, l, d => .im r (EnvOk.take q (i := i) h (by simpa [NotOw] using e) (by simpa using l) d)
  | _, _, _, i + 1, .ow (Ma := Mb) (M := M) r d' h, e, l, d => by
    obtain ⟨y1, y2⟩ := dis_r_ov d
    have e2 : ov Ma (ov Mb M) = ov Mb (ov Ma M) := by rw [ov_assoc, ov_assoc, ov_comm y1]
    rw [e2]
    exact .ow r (dis_ov_r y1.symm d') (EnvOk.take q (i := i) h (by simpa [NotOw] using e) (by simpa using l) y2)
end
/-- what may be forgotten of a slot -/
inductive Wk1 : Sl → Sl → Prop where
  | rfl (a : Sl) : Wk1 a a
  | no (p : PV) : Wk1 (.im p) .no
  | im {p p' : PV} : (∀ I v, p.r I v → p'.r I v) → Wk1 (.im p) (.im p')
  | fr {p : OP} {p' : PV} : (∀ I a Ma, Dis Ma I → p.r I a Ma → p'.r (ov Ma I) (.ref a)) → Wk1 (.ow p) (.im p')
  | drop (p : OP) : Wk1 (.ow p) .no
  | ow {p p' : OP} : (∀ I a Ma, p.r I a Ma → p'.r I a Ma) → Wk1 (.ow p) (.ow p')
inductive Wk : List Sl → List Sl → Prop where
  | nil : Wk [] []
  | cons {a b : Sl} {Γ Γ' : List Sl} : Wk1 a b → Wk Γ Γ' → Wk (a :: Γ) (b :: Γ')
theorem Wk.refl : ∀ Γ : List Sl, Wk Γ Γ
  | [] => .nil
  | a :: Γ => .cons (.rfl a) (Wk.refl Γ)
theorem EnvOk.wk {F : Hp} : ∀ {Γ Γ' : List Sl}, Wk Γ Γ' → ∀ {I M : Hp} {σ : St}, EnvOk I F M σ Γ → Dis M I → ∃ I' M', Ex I I' ∧ Dis M' I' ∧ ov M' I' = ov M I ∧ EnvOk I' F M' σ Γ'
  | _, _, .nil, I, M, σ, h, d => ⟨I, M, Ex.refl I, d, rfl, h⟩
  | _, _, .cons w ws, I, M, σ, h, d => by
    have own : ∀ {Ma M1 : Hp} {σ1 : St}, Dis Ma M1 → EnvOk I F M1 σ1 _ → Dis (ov Ma M1) I → ∃ I' M', Ex I I' ∧ Dis M' I' ∧ EnvOk I' F M' σ1 _ ∧ Dis Ma I' ∧ Dis Ma M' ∧ ov Ma (ov M' I') = ov (ov Ma M1) I := fun {Ma M1 σ1} d1 h1 d2 => by
      obtain ⟨y1, y2⟩ := dis_ov_l d2
      obtain ⟨I', M', x1, x2, x3, x4⟩ := EnvOk.wk ws h1 y2
      have z := dis_ov_r d1 y1
      rw [← x3] at z
      obtain ⟨z1, z2⟩ := dis_r_ov z
      exact ⟨I', M', x1, x2, x4, z2, z1, by rw [x3, ov_assoc]⟩
    cases w with
    | rfl a =>
      cases h with
      | no o h =>
        obtain ⟨I', M', x1, x2, x3, x4⟩ := EnvOk.wk ws h d
        exact ⟨I', M', x1, x2, x3, .no o x4⟩
      | im q h =>
        obtain ⟨I', M', x1, x2, x3, x4⟩ := EnvOk.wk ws h d
        exact ⟨I', M', x1, x2, x3, .im (PV.up _ x1 q) x4⟩
      | ow q d' h =>
        obtain ⟨I', M', x1, x2, x3, x4, x5, x6⟩ := own d' h d
        exact ⟨I', _, x1, dis_ov x4 x2, by rw [← ov_assoc, x6], .ow (OP.up _ x1 q) x5 x3⟩
    | no p =>
      cases h with
      | im q h =>
        obtain ⟨I', M', x1, x2, x3, x4⟩ := EnvOk.wk ws h d
        exact ⟨I', M', x1, x2, x3, .no _ x4⟩
    | im f =>
      cases h with
      | im q h =>
        obtain ⟨I', M', x1, x2, x3, x4⟩ := EnvOk.wk ws h d
        exact ⟨I', M', x1, x2, x3, .im (PV.up _ x1 (f _ _ q)) x4⟩
    | fr f =>
      cases h with
      | ow q d' h =>
        obtain ⟨I', M', x1, x2, x3, x4, x5, x6⟩ := own d' h d
        exact ⟨ov _ I', M', x1.trans (ex_ov x4), dis_ov_r x5.symm x2, by rw [ov_assoc, ← ov_comm x5, ← ov_assoc, x6], .im (f _ _ _ x4 (OP.up _ x1 q)) (x3.up (ex_ov x4))⟩
    | drop p =>
      cases h with
      | ow q d' h =>
        obtain ⟨I', M', x1, x2, x3, x4, x5, x6⟩ := own d' h d
        exact ⟨ov _ I', M', x1.trans (ex_ov x4), dis_ov_r x5.symm x2, by rw [ov_assoc, ← ov_comm x5, ← ov_assoc, x6], .no _ (x3.up (ex_ov x4))⟩
    | ow f =>
      cases h with
      | ow q d' h =>
        obtain ⟨I', M', x1, x2, x3, x4, x5, x6⟩ := own d' h d
        exact ⟨I', _, x1, dis_ov x4 x2, by rw [← ov_assoc, x6], .ow (f _ _ _ (OP.up _ x1 q)) x5 x3⟩
/-- a list is no longer changed -/
theorem fr_ol {K : PySem.W.Frag} {α : Type} [Rp α] {xs : List α} : ∀ I a Ma, Dis Ma I → (ol K xs).r I a Ma → (pv K xs).r (ov Ma I) (.ref a) := fun I a Ma d ⟨vs, e, q⟩ =>
  ⟨a, vs, rfl, by rw [e]; exact ov_l sing_same, rs_up (ex_ov d) q⟩
theorem fr_at {P : OP} {p : PV} {v : V} (h : ∀ I a Ma, Dis Ma I → P.r I a Ma → p.r (ov Ma I) (.ref a)) : ∀ I a Ma, Dis Ma I → (P.at v).r I a Ma → p.r (ov Ma I) (.ref a) := fun I a Ma d ⟨_, q⟩ => h I a Ma d q

/-! ### a state that owns a heap of its own -/
class SH (S : Type) where
  h : S → Hp → Hp → Prop
  up : ∀ {s : S} {I I' G : Hp}, Ex I I' → h s I G → h s I' G
instance shUnit : SH Unit := ⟨fun _ _ G => G = emp, fun _ h => h⟩
/-- G: the state's own; F: what is owned besides -/
def EnvG {S : Type} [SH S] (s : S) (I F M : Hp) (σ : St) (Γ : List Sl) : Prop := ∃ G, SH.h s I G ∧ Dis G F ∧ EnvOk I (ov G F) M σ Γ
/-- .. whatever is owned besides -/
def EnvX (I M : Hp) (σ : St) (Γ : List Sl) : Prop := ∃ F, EnvOk I F M σ Γ
section
variable {S : Type} [SH S] {s : S} {I F M : Hp} {σ : St} {Γ : List Sl}
theorem EnvOk.x (h : EnvOk I F M σ Γ) : EnvX I M σ Γ := ⟨F, h⟩
theorem EnvG.x (h : EnvG s I F M σ Γ) : EnvX I M σ Γ := let ⟨_, _, _, e⟩ := h; ⟨_, e⟩
instance : CoeHead (EnvOk I F M σ Γ) (EnvX I M σ Γ) := ⟨EnvOk.x⟩
instance : CoeHead (EnvG s I F M σ Γ) (EnvX I M σ Γ) := ⟨EnvG.x⟩
theorem EnvX.up {I' : Hp} (a : Ex I I') (h : EnvX I M σ Γ) : EnvX I' M σ Γ := let ⟨_, e⟩ := h; ⟨_, e.up a⟩
theorem EnvX.len (h : EnvX I M σ Γ) : σ.length = Γ.length := let ⟨_, e⟩ := h; e.len
theorem EnvX.get (h : EnvX I M σ Γ) {i : Nat} {p : PV} (hi : Γ[i]? = some (.im p)) : ∃ v, σ[i]? = some (some v) ∧ p.r I v := let ⟨_, e⟩ := h; e.get hi
theorem EnvX.foc (h : EnvX I M σ Γ) {i : Nat} {p : OP} (hi : Γ[i]? = some (.ow p)) : ∃ a Ma M', σ[i]? = some (some (.ref a)) ∧ p.r I a Ma ∧ Dis Ma M' ∧ M = ov Ma M' := by
  obtain ⟨F, e⟩ := h
  obtain ⟨a, Ma, M', h1, h2, h3, h4, _⟩ := e.foc hi
  exact ⟨a, Ma, M', h1, h2, h3, h4⟩
theorem dis_emp {A : Hp} : Dis emp A := fun _ => .inl rfl
theorem ov_empl {A : Hp} : ov emp A = A := by
  funext a
  exact ov_r rfl
theorem EnvG.of (h : EnvOk I F M σ Γ) : EnvG () I F M σ Γ := ⟨emp, rfl, dis_emp, by rw [ov_empl]; exact h⟩
theorem EnvG.unit {s : Unit} (h : EnvG s I F M σ Γ) : EnvOk I F M σ Γ := by
  obtain ⟨G, h1, _, h3⟩ := h
  have e : G = emp := h1
  rw [e, ov_empl] at h3
  exact h3
theorem EnvG.up {I' : Hp} (a : Ex I I') (h : EnvG s I F M σ Γ) : EnvG s I' F M σ Γ := let ⟨G, h1, h2, e⟩ := h; ⟨G, SH.up a h1, h2, e.up a⟩
theorem EnvG.len (h : EnvG s I F M σ Γ) : σ.length = Γ.length := h.x.len
theorem EnvG.get (h : EnvG s I F M σ Γ) {i : Nat} {p : PV} (hi : Γ[i]? = some (.im p)) : ∃ v, σ[i]? = some (some v) ∧ p.r I v := h.x.get hi
theorem EnvG.foc (h : EnvG s I F M σ Γ) {i : Nat} {p : OP} (hi : Γ[i]? = some (.ow p)) : ∃ a Ma M', σ[i]? = some (some (.ref a)) ∧ p.r I a Ma ∧ Dis Ma M' ∧ M = ov Ma M' ∧
    (∀ I' p' Ma', Ex I I' → Dis Ma' M' → p'.r I' a Ma' → EnvG s I' F (ov Ma' M') σ (Γ.set i (.ow p'))) ∧ (∀ I' p', Ex I I' → PV.r p' I' (.ref a) → EnvG s I' F M' σ (Γ.set i (.im p'))) ∧ (∀ I', Ex I I' → EnvG s I' F M' σ (Γ.set i .no)) := by
  obtain ⟨G, g1, g2, e⟩ := h
  obtain ⟨a, Ma, M', h1, h2, h3, h4, h5, h6, h7⟩ := e.foc hi
  exact ⟨a, Ma, M', h1, h2, h3, h4, fun I' p' Ma' x1 x2 x3 => ⟨G, SH.up x1 g1, g2, h5 I' p' Ma' x1 x2 x3⟩, fun I' p' x1 x2 => ⟨G, SH.up x1 g1, g2, h6 I' p' x1 x2⟩, fun I' x1 => ⟨G, SH.up x1 g1, g2, h7 I' x1⟩⟩
theorem EnvG.set {v : V} {p : PV} (q : p.r I v) {i : Nat} (h : EnvG s I F M σ Γ) (n : NotOw Γ i) : EnvG s I F M (σ.set i (some v)) (Γ.set i (.im p)) := let ⟨G, h1, h2, e⟩ := h; ⟨G, h1, h2, e.set q n⟩
theorem EnvG.setNo {o : Option V} {i : Nat} (h : EnvG s I F M σ Γ) (n : NotOw Γ i) : EnvG s I F M (σ.set i o) (Γ.set i .no) := let ⟨G, h1, h2, e⟩ := h; ⟨G, h1, h2, e.setNo n⟩
theorem EnvG.take {a : Addr} {p : OP} {Ma : Hp} (q : p.r I a Ma) {i : Nat} (h : EnvG s I F M σ Γ) (n : NotOw Γ i) (l : i < Γ.length) (d : Dis Ma M) : EnvG s I F (ov Ma M) (σ.set i (some (.ref a))) (Γ.set i (.ow p)) := let ⟨G, h1, h2, e⟩ := h; ⟨G, h1, h2, e.take q n l d⟩
theorem EnvG.wk {Γ' : List Sl} (w : Wk Γ Γ') (h : EnvG s I F M σ Γ) (d : Dis M I) : ∃ I' M', Ex I I' ∧ Dis M' I' ∧ ov M' I' = ov M I ∧ EnvG s I' F M' σ Γ' := by
  obtain ⟨G, h1, h2, e⟩ := h
  obtain ⟨I', M', x1, x2, x3, x4⟩ := e.wk w d
  exact ⟨I', M', x1, x2, x3, G, SH.up x1 h1, h2, x4⟩
end
end Mir

/-! Mir2: the monad of mirrors; what a reading computes -/
namespace Mir
open PySem L2

/-! ### the monad: a state of what is owned; ok or bad -/
/-- an exception: its class, what it holds -/
structure Xc where
  cls : Str
  arg : Option V
inductive R (S α : Type) where
  | ok (a : α) (s : S)
  | bad
  | exc (e : Xc) (s : S)
  | all (p : Addr → Bool) (f : Addr → R S α)
def Mn (S α : Type) : Type := S → R S α
section
variable {S α β : Type}
def R.sat : R S α → (α → S → Prop) → Prop
  | .ok a s, Q => Q a s
  | .bad, _ => False
  | .exc _ _, _ => False
  | .all p f, Q => ∀ a, p a = true → (f a).sat Q
def R.bnd {S' : Type} : R S α → (α → S → R S' β) → (S → S') → R S' β
  | .ok a s, k, _ => k a s
  | .bad, _, _ => .bad
  | .exc e s, _, g => .exc e (g s)
  | .all p f, k, g => .all p fun a => (f a).bnd k g
theorem sat_bnd {S' : Type} {m : R S α} {k : α → S → R S' β} {g : S → S'} {Q : β → S' → Prop} : (m.bnd k g).sat Q ↔ m.sat fun a s => (k a s).sat Q := by
  induction m with
  | ok a s => exact Iff.rfl
  | bad => exact Iff.rfl
  | exc e s => exact Iff.rfl
  | all p f ih => exact ⟨fun h a q => (ih a).mp (h a q), fun h a q => (ih a).mpr (h a q)⟩
def mp (a : α) : Mn S α := fun s => .ok a s
def mbad : Mn S α := fun _ => .bad
def mb (m : Mn S α) (f : α → Mn S β) : Mn S β := fun s => (m s).bnd f id
/-- checked -/
def mc (c : Bool) (a : α) : Mn S α := fun s => match c with
  | true => .ok a s
  | false => .bad
def mo (o : Option α) : Mn S α := fun s => match o with
  | some a => .ok a s
  | none => .bad
/-- of the state -/
def mg (f : S → α) : Mn S α := fun s => .ok (f s) s
def ms (f : S → S) : Mn S Unit := fun s => .ok () (f s)
def mi (b : Bool) (m1 m2 : Mn S α) : Mn S α := match b with
  | true => m1
  | false => m2
/-- of another state: get and put -/
def ml {S' : Type} (g : S → S') (p : S → S' → S) (m : Mn S' α) : Mn S α := fun s => (m (g s)).bnd (fun a s' => .ok a (p s s')) (p s)
/-- of no state -/
def mu (m : Mn Unit α) : Mn S α := fun s => (m ()).bnd (fun a _ => .ok a s) fun _ => s
/-- an address that is chosen otherwise -/
def mall (p : S → Addr → Bool) : Mn S Addr := fun s => .all (p s) fun a => .ok a s
/-- raised -/
def mexc (e : Xc) : Mn S α := fun s => .exc e s
theorem R.sat_imp {m : R S α} {Q Q' : α → S → Prop} (h : m.sat Q) (f : ∀ a s, Q a s → Q' a s) : m.sat Q' := by
  induction m with
  | ok a s => exact f _ _ h
  | bad => exact h
  | exc e s => exact h
  | all p k ih => exact fun a q => ih a (h a q)
theorem sat_mb {m : Mn S α} {f : α → Mn S β} {s : S} {Q : β → S → Prop} : (mb m f s).sat Q ↔ (m s).sat fun a s' => (f a s').sat Q := sat_bnd
theorem sat_mall {p : S → Addr → Bool} {s : S} {Q : Addr → S → Prop} : (mall p s).sat Q ↔ ∀ a, p s a = true → Q a s := Iff.rfl
theorem sat_mp {a : α} {s : S} {Q : α → S → Prop} : (mp a s).sat Q ↔ Q a s := Iff.rfl
theorem sat_mc {c : Bool} {a : α} {s : S} {Q : α → S → Prop} : (mc c a s).sat Q ↔ c = true ∧ Q a s := by
  cases c with
  | true => exact ⟨fun h => ⟨rfl, h⟩, fun h => h.2⟩
  | false => exact ⟨fun h => h.elim, fun h => nomatch h.1⟩
theorem sat_mo {o : Option α} {s : S} {Q : α → S → Prop} : (mo o s).sat Q ↔ ∃ a, o = some a ∧ Q a s := by
  cases o with
  | none => exact ⟨fun h => h.elim, fun ⟨_, h, _⟩ => nomatch h⟩
  | some a => exact ⟨fun h => ⟨a, rfl, h⟩, fun ⟨_, h, q⟩ => by cases h; exact q⟩
theorem sat_mg {f : S → α} {s : S} {Q : α → S → Prop} : (mg f s).sat Q ↔ Q (f s) s := Iff.rfl
theorem sat_ms {f : S → S} {s : S} {Q : Unit → S → Prop} : (ms f s).sat Q ↔ Q () (f s) := Iff.rfl
theorem sat_mbad {s : S} {Q : α → S → Prop} : ((mbad : Mn S α) s).sat Q ↔ False := Iff.rfl
theorem sat_mi {b : Bool} {m1 m2 : Mn S α} {s : S} {Q : α → S → Prop} : (mi b m1 m2 s).sat Q ↔ (b = true → (m1 s).sat Q) ∧ (b = false → (m2 s).sat Q) := by
  cases b with
  | true => exact ⟨fun h => ⟨fun _ => h, fun q => nomatch q⟩, fun h => h.1 rfl⟩
  | false => exact ⟨fun h => ⟨fun q => (nomatch q), fun _ => h⟩, fun h => h.2 rfl⟩
theorem sat_ml {S' : Type} {g : S → S'} {p : S → S' → S} {m : Mn S' α} {s : S} {Q : α → S → Prop} : (ml g p m s).sat Q ↔ (m (g s)).sat fun a s' => Q a (p s s') := sat_bnd
theorem sat_mu {m : Mn Unit α} {s : S} {Q : α → S → Prop} : (mu m s).sat Q ↔ (m ()).sat fun a _ => Q a s := sat_bnd
end

/-! ### judgements -/
section
variable {K : PySem.W.Frag}
/-- an expression of known value p; nothing owned is changed -/
def EP (te : TE) (Γ : List Sl) (p : PV) : Prop := ∀ (I F M : Hp) (σ : L2.St), EnvX I M σ Γ → Dis M I → ∀ Q : VK, (∀ v I', Ex I I' → Dis M I' → p.r I' v → Q v (ov M I')) → te σ (ov M I) Q
/-- a test -/
def TP (tt : TT) (Γ : List Sl) (b : Bool) : Prop := ∀ (I F M : Hp) (σ : L2.St), EnvX I M σ Γ → Dis M I → ∀ Q : Bool → Hp → Prop, (∀ I', Ex I I' → Dis M I' → Q b (ov M I')) → tt σ (ov M I) Q
/-- an expression that may change what is owned, or be bad -/
def EM (K : PySem.W.Frag) {S α : Type} [SH S] [Rp α] (te : TE) (Γ : S → List Sl) (m : Mn S α) : Prop := ∀ (s : S) (I F M : Hp) (σ : L2.St), EnvG s I F M σ (Γ s) → Dis M I → ∀ Q : VK,
  (m s).sat (fun x s' => ∀ v I' M', Ex I I' → Dis M' I' → EnvG s' I' F M' σ (Γ s') → Rp.r K x I' v → Q v (ov M' I')) → te σ (ov M I) Q
def TM {S : Type} [SH S] (tt : TT) (Γ : S → List Sl) (m : Mn S Bool) : Prop := ∀ (s : S) (I F M : Hp) (σ : L2.St), EnvG s I F M σ (Γ s) → Dis M I → ∀ Q : Bool → Hp → Prop,
  (m s).sat (fun b s' => ∀ I' M', Ex I I' → Dis M' I' → EnvG s' I' F M' σ (Γ s') → Q b (ov M' I')) → tt σ (ov M I) Q
section
variable {S α β γ : Type} [SH S] [Rp α] [Rp β] [Rp γ] {te ta tb : TE} {tt : TT} {Γ : S → List Sl} {x : α} {y : β} {z : γ}
theorem em_p {f : S → α} (h : ∀ s, EP te (Γ s) (pv K (f s))) : EM K te Γ (mg f) := fun s I F M σ e d Q q => h s I F M σ e d Q fun v I' a b c => q v I' M a b (e.up a) c
theorem em_pure (h : ∀ s, EP te (Γ s) (pv K x)) : EM K te Γ (mp x) := fun s I F M σ e d Q q => h s I F M σ e d Q fun v I' a b c => q v I' M a b (e.up a) c
theorem tm_pure {b : Bool} (h : ∀ s, TP tt (Γ s) b) : TM tt Γ (mp b) := fun s I F M σ e d Q q => h s I F M σ e d Q fun I' a b => q I' M a b (e.up a)
theorem tm_p {f : S → Bool} (h : ∀ s, TP tt (Γ s) (f s)) : TM tt Γ (mg f) := fun s I F M σ e d Q q => h s I F M σ e d Q fun I' a b => q I' M a b (e.up a)
end

/-! ### names, constants -/
section
variable {Γ : List Sl} {p q w : PV} {te ta tb tc : TE} {tt tu : TT} {a b : Bool}
theorem ep_var {i : Nat} (h : Γ[i]? = some (.im p)) : EP (tVar i) Γ p := fun I F M σ e d Q k => by
  obtain ⟨v, h1, h2⟩ := e.get h
  exact ⟨v, h1, k v I (Ex.refl I) d h2⟩
theorem ep_c {α : Type} [Rp α] {x : α} {v : V} (h : ∀ H, Rp.r K x H v) : EP (tC v) Γ (pv K x) := fun I F M σ e d Q k => k v I (Ex.refl I) d (h I)
theorem ep_int {i : Int} : EP (tC (.int i)) Γ (pv K i) := ep_c fun _ => rfl
theorem ep_bl {i : Bool} : EP (tC (.bl i)) Γ (pv K i) := ep_c fun _ => rfl
theorem ep_str {i : Str} : EP (tC (.str i)) Γ (pv K i) := ep_c fun _ => rfl
theorem ep_non : EP (tC .non) Γ (pv K ()) := ep_c fun _ => rfl
theorem ep_nonO {α : Type} [Rp α] : EP (tC .non) Γ (pv K (none : Option α)) := ep_c fun _ => rfl
theorem ep_some {α : Type} [Rp α] {x : α} (hn : ∀ H v, Rp.r K x H v → v ≠ .non) (h : EP te Γ (pv K x)) : EP te Γ (pv K (some x)) := fun I F M σ e d Q k => h I F M σ e d Q fun v I' a b c => k v I' a b ⟨c, hn _ _ c⟩

/-! ### operators on values -/
/-- what an operator gives of two values -/
def Op2 (r : R2) (p q w : PV) : Prop := ∀ (I M : Hp) (x y : V) (Q : VK), Dis M I → p.r I x → q.r I y → (∀ v I', Ex I I' → Dis M I' → w.r I' v → Q v (ov M I')) → r x y (ov M I) Q
def Op1 (r : V → Hp → VK → Prop) (p w : PV) : Prop := ∀ (I M : Hp) (x : V) (Q : VK), Dis M I → p.r I x → (∀ v I', Ex I I' → Dis M I' → w.r I' v → Q v (ov M I')) → r x (ov M I) Q
theorem op_ii {g : Int → Int → V} {α : Type} [Rp α] {i j : Int} {z : α} (h : ∀ H, Rp.r K z H (g i j)) : Op2 (rI0 g) (pv K i) (pv K j) (pv K z) := fun I M x y Q d hx hy k => ⟨i, j, hx, hy, k _ I (Ex.refl I) d (h I)⟩
theorem op_iiC {C : Int → Int → Prop} {g : Int → Int → V} {α : Type} [Rp α] {i j : Int} {z : α} (c : C i j) (h : ∀ H, Rp.r K z H (g i j)) : Op2 (rI C g) (pv K i) (pv K j) (pv K z) := fun I M x y Q d hx hy k => ⟨i, j, hx, hy, c, k _ I (Ex.refl I) d (h I)⟩
theorem ep_op {r : R2} (ha : EP ta Γ p) (hb : EP tb Γ q) (h : Op2 r p q w) : EP (tOp r ta tb) Γ w := fun I F M σ e d Q k =>
  ha I F M σ e d _ fun x I1 a1 d1 r1 => hb I1 F M σ (e.up a1) d1 _ fun y I2 a2 d2 r2 => h I2 M x y Q d2 (p.up a2 r1) r2 fun v I3 a3 d3 r3 => k v I3 ((a1.trans a2).trans a3) d3 r3
theorem ep_un {r : V → Hp → VK → Prop} (ha : EP ta Γ p) (h : Op1 r p w) : EP (tUn r ta) Γ w := fun I F M σ e d Q k =>
  ha I F M σ e d _ fun x I1 a1 d1 r1 => h I1 M x Q d1 r1 fun v I3 a3 d3 r3 => k v I3 (a1.trans a3) d3 r3
end
section
variable {S α β γ : Type} [SH S] [Rp α] [Rp β] [Rp γ] {ta tb : TE} {Γ : S → List Sl} {x : α} {y : β} {z : γ} {m1 : Mn S α} {m2 : Mn S β} {r : R2} {g : α → β → γ} {c : α → β → Bool}
/-- both parts change or are checked -/
theorem em_op (ha : EM K ta Γ m1) (hb : EM K tb Γ m2) (h : ∀ x y, Op2 r (pv K x) (pv K y) (pv K (g x y))) : EM K (tOp r ta tb) Γ (mb m1 fun x => mb m2 fun y => mp (g x y)) := fun s I F M σ e d Q q =>
  ha s I F M σ e d _ (R.sat_imp (sat_mb.mp q) fun x s1 q v1 I1 M1 a1 d1 e1 r1 => hb s1 I1 F M1 σ e1 d1 _ (R.sat_imp (sat_mb.mp q) fun y s2 q v2 I2 M2 a2 d2 e2 r2 =>
    h x y I2 M2 v1 v2 Q d2 (Rp.up a2 r1) r2 fun v I3 a3 d3 r3 => q v I3 M2 ((a1.trans a2).trans a3) d3 (e2.up a3) r3))
theorem em_opC (ha : EM K ta Γ m1) (hb : EM K tb Γ m2) (h : ∀ x y, c x y = true → Op2 r (pv K x) (pv K y) (pv K (g x y))) : EM K (tOp r ta tb) Γ (mb m1 fun x => mb m2 fun y => mc (c x y) (g x y)) := fun s I F M σ e d Q q =>
  ha s I F M σ e d _ (R.sat_imp (sat_mb.mp q) fun x s1 q v1 I1 M1 a1 d1 e1 r1 => hb s1 I1 F M1 σ e1 d1 _ (R.sat_imp (sat_mb.mp q) fun y s2 q v2 I2 M2 a2 d2 e2 r2 =>
    h x y (sat_mc.mp q).1 I2 M2 v1 v2 Q d2 (Rp.up a2 r1) r2 fun v I3 a3 d3 r3 => (sat_mc.mp q).2 v I3 M2 ((a1.trans a2).trans a3) d3 (e2.up a3) r3))
/-- the left part known -/
theorem em_opl (ha : ∀ s, EP ta (Γ s) (pv K x)) (hb : EM K tb Γ m2) (h : ∀ y, Op2 r (pv K x) (pv K y) (pv K (g x y))) : EM K (tOp r ta tb) Γ (mb m2 fun y => mp (g x y)) := fun s I F M σ e d Q q =>
  ha s I F M σ e d _ fun v1 I1 a1 d1 r1 => hb s I1 F M σ (e.up a1) d1 _ (R.sat_imp (sat_mb.mp q) fun y s2 q v2 I2 M2 a2 d2 e2 r2 =>
    h y I2 M2 v1 v2 Q d2 (Rp.up a2 r1) r2 fun v I3 a3 d3 r3 => q v I3 M2 ((a1.trans a2).trans a3) d3 (e2.up a3) r3)
theorem em_oplC (ha : ∀ s, EP ta (Γ s) (pv K x)) (hb : EM K tb Γ m2) (h : ∀ y, c x y = true → Op2 r (pv K x) (pv K y) (pv K (g x y))) : EM K (tOp r ta tb) Γ (mb m2 fun y => mc (c x y) (g x y)) := fun s I F M σ e d Q q =>
  ha s I F M σ e d _ fun v1 I1 a1 d1 r1 => hb s I1 F M σ (e.up a1) d1 _ (R.sat_imp (sat_mb.mp q) fun y s2 q v2 I2 M2 a2 d2 e2 r2 =>
    h y (sat_mc.mp q).1 I2 M2 v1 v2 Q d2 (Rp.up a2 r1) r2 fun v I3 a3 d3 r3 => (sat_mc.mp q).2 v I3 M2 ((a1.trans a2).trans a3) d3 (e2.up a3) r3)
/-- the right part known -/
theorem em_opr (ha : EM K ta Γ m1) (hb : ∀ s, EP tb (Γ s) (pv K y)) (h : ∀ x, Op2 r (pv K x) (pv K y) (pv K (g x y))) : EM K (tOp r ta tb) Γ (mb m1 fun x => mp (g x y)) := fun s I F M σ e d Q q =>
  ha s I F M σ e d _ (R.sat_imp (sat_mb.mp q) fun x s1 q v1 I1 M1 a1 d1 e1 r1 => hb s1 I1 F M1 σ e1 d1 _ fun v2 I2 a2 d2 r2 =>
    h x I2 M1 v1 v2 Q d2 (Rp.up a2 r1) r2 fun v I3 a3 d3 r3 => q v I3 M1 ((a1.trans a2).trans a3) d3 (e1.up (a2.trans a3)) r3)
theorem em_oprC (ha : EM K ta Γ m1) (hb : ∀ s, EP tb (Γ s) (pv K y)) (h : ∀ x, c x y = true → Op2 r (pv K x) (pv K y) (pv K (g x y))) : EM K (tOp r ta tb) Γ (mb m1 fun x => mc (c x y) (g x y)) := fun s I F M σ e d Q q =>
  ha s I F M σ e d _ (R.sat_imp (sat_mb.mp q) fun x s1 q v1 I1 M1 a1 d1 e1 r1 => hb s1 I1 F M1 σ e1 d1 _ fun v2 I2 a2 d2 r2 =>
    h x (sat_mc.mp q).1 I2 M1 v1 v2 Q d2 (Rp.up a2 r1) r2 fun v I3 a3 d3 r3 => (sat_mc.mp q).2 v I3 M1 ((a1.trans a2).trans a3) d3 (e1.up (a2.trans a3)) r3)
/-- both parts known -/
theorem em_opC2 {c : Bool} (ha : ∀ s, EP ta (Γ s) (pv K x)) (hb : ∀ s, EP tb (Γ s) (pv K y)) (h : c = true → Op2 r (pv K x) (pv K y) (pv K z)) : EM K (tOp r ta tb) Γ (mc c z) := fun s I F M σ e d Q q =>
  ep_op (ha s) (hb s) (h (sat_mc.mp q).1) I F M σ e d Q fun v I3 a3 d3 r3 => (sat_mc.mp q).2 v I3 M a3 d3 (e.up a3) r3
/-- .. in the state -/
theorem em_un {r : V → Hp → VK → Prop} {g : α → γ} (ha : EM K ta Γ m1) (h : ∀ x, Op1 r (pv K x) (pv K (g x))) : EM K (tUn r ta) Γ (mb m1 fun x => mp (g x)) := fun s I F M σ e d Q q =>
  ha s I F M σ e d _ (R.sat_imp (sat_mb.mp q) fun x s1 q v1 I1 M1 a1 d1 e1 r1 => h x I1 M1 v1 Q d1 r1 fun v I3 a3 d3 r3 => q v I3 M1 (a1.trans a3) d3 (e1.up a3) r3)
end
end
end Mir

/-! Mir3: operators, tests, arguments, displays, items, calls -/
namespace Mir
open PySem L2
section
variable {K : PySem.W.Frag}
/-! ### operators on ints -/
section
variable {i j : Int}
theorem o_add : Op2 (rI0 fun i j => .int (i + j)) (pv K i) (pv K j) (pv K (i + j)) := op_ii fun _ => rfl
theorem o_sub : Op2 (rI0 fun i j => .int (i - j)) (pv K i) (pv K j) (pv K (i - j)) := op_ii fun _ => rfl
theorem o_lt : Op2 (rI0 fun i j => .bl (decide (i < j))) (pv K i) (pv K j) (pv K (decide (i < j))) := op_ii fun _ => rfl
theorem o_le : Op2 (rI0 fun i j => .bl (decide (i ≤ j))) (pv K i) (pv K j) (pv K (decide (i ≤ j))) := op_ii fun _ => rfl
theorem o_gt : Op2 (rI0 fun i j => .bl (decide (j < i))) (pv K i) (pv K j) (pv K (decide (j < i))) := op_ii fun _ => rfl
theorem o_ge : Op2 (rI0 fun i j => .bl (decide (j ≤ i))) (pv K i) (pv K j) (pv K (decide (j ≤ i))) := op_ii fun _ => rfl
def smallI (i : Int) : Bool := decide (-(2 ^ 64) < i ∧ i < 2 ^ 64)
def mulOk (i j : Int) : Bool := decide (i.natAbs.log2 + j.natAbs.log2 < 1000000)
def divOk (j : Int) : Bool := decide (0 < j ∧ j.natAbs.log2 < 9000)
def modOk (j : Int) : Bool := decide (0 < j)
def powOk (i j : Int) : Bool := decide (0 ≤ j ∧ j ≤ 1000000 ∧ i.natAbs < 2 ^ 64)
/-- one factor is small -/
theorem o_mulL (h : smallI i = true) : Op2 (rI CMul fun i j => .int (i * j)) (pv K i) (pv K j) (pv K (i * j)) := op_iiC (show CMul i j from .inl (of_decide_eq_true h)) fun _ => rfl
theorem o_mulR (h : smallI j = true) : Op2 (rI CMul fun i j => .int (i * j)) (pv K i) (pv K j) (pv K (i * j)) := op_iiC (show CMul i j from .inr (of_decide_eq_true h)) fun _ => rfl
theorem o_mulW (h : mulOk i j = true) : Op2 (rI CMulW fun i j => .int (i * j)) (pv K i) (pv K j) (pv K (i * j)) := op_iiC (show CMulW i j from (of_decide_eq_true h : i.natAbs.log2 + j.natAbs.log2 < 1000000)) fun _ => rfl
theorem o_divW (h : divOk j = true) : Op2 (rI CDivW fun i j => .int (i / j)) (pv K i) (pv K j) (pv K (i / j)) := op_iiC (show CDivW i j from (of_decide_eq_true h : 0 < j ∧ j.natAbs.log2 < 9000)) fun _ => rfl
theorem o_mod (h : modOk j = true) : Op2 (rI (fun _ j => 0 < j) fun i j => .int (i % j)) (pv K i) (pv K j) (pv K (i % j)) := op_iiC (C := fun _ j => 0 < j) (of_decide_eq_true h) fun _ => rfl
theorem o_pow (h : powOk i j = true) : Op2 (rI CPow fun i j => .int (i ^ j.toNat)) (pv K i) (pv K j) (pv K (i ^ j.toNat)) := op_iiC (show CPow i j from (of_decide_eq_true h : 0 ≤ j ∧ j ≤ 1000000 ∧ i.natAbs < 2 ^ 64)) fun _ => rfl
theorem o_neg : Op1 (rU fun i => .int (-i)) (pv K i) (pv K (-i)) := fun I M x Q d hx k => ⟨i, hx, k _ I (Ex.refl I) d rfl⟩
/-- scalars by == -/
class Eqs (α : Type) [Rp α] [Sc α] where
  sc : ∀ x y : α, scal (Sc.s x) (Sc.s y) = true
  inj : ∀ x y : α, Sc.s x = Sc.s y → x = y
instance eqsInt : Eqs Int := ⟨fun _ _ => rfl, fun _ _ h => V.int.inj h⟩
instance eqsBool : Eqs Bool := ⟨fun _ _ => rfl, fun _ _ h => V.bl.inj h⟩
instance eqsStr : Eqs Str := ⟨fun _ _ => rfl, fun _ _ h => V.str.inj h⟩
theorem dec_s {α : Type} [Rp α] [Sc α] [Eqs α] [DecidableEq α] (x y : α) : decide (Sc.s x = Sc.s y) = decide (x = y) := by
  by_cases h : x = y
  · rw [h]; simp
  · rw [decide_eq_false h, decide_eq_false (fun q => h (Eqs.inj _ _ q))]
theorem o_eq {α : Type} [Rp α] [Sc α] [Eqs α] [DecidableEq α] {x y : α} : Op2 rEq (pv K x) (pv K y) (pv K (decide (x = y))) := fun I M u v Q d hx hy k => by
  cases Sc.eq.mp hx
  cases Sc.eq.mp hy
  refine ⟨Eqs.sc _ _, ?_⟩
  rw [dec_s]
  exact k _ I (Ex.refl I) d rfl
theorem o_ne {α : Type} [Rp α] [Sc α] [Eqs α] [DecidableEq α] {x y : α} : Op2 rNe (pv K x) (pv K y) (pv K (!decide (x = y))) := fun I M u v Q d hx hy k => by
  cases Sc.eq.mp hx
  cases Sc.eq.mp hy
  refine ⟨Eqs.sc _ _, ?_⟩
  rw [dec_s]
  exact k _ I (Ex.refl I) d rfl
/-- x is None, of a type that is not None -/
theorem o_isN {p : PV} (b : Bool) (h : ∀ H v, p.r H v → decide (v = .non) = b) : Op2 (fun x y H Q => y = .non ∧ Q (.bl (decide (x = .non))) H) p (pv K ()) (pv K b) := fun I M x y Q d hx hy k => by
  refine ⟨hy, ?_⟩
  rw [h _ _ hx]
  exact k _ I (Ex.refl I) d rfl
theorem isN_opt {α : Type} [Rp α] {x : Option α} : ∀ H v, (pv K x).r H v → decide (v = .non) = x.isNone := fun H v h => by
  cases x with
  | none => exact decide_eq_true h
  | some y => exact decide_eq_false h.2
end

/-! ### tests -/
section
variable {Γ : List Sl} {p q q2 w : PV} {te ta tb tc : TE} {tt tu : TT} {a b : Bool} {r r' : R2}
theorem tp_test (h : EP te Γ (pv K b)) : TP (tTest te) Γ b := fun I F M σ e d Q k => h I F M σ e d _ fun v I' x y z => ⟨b, z, k I' x y⟩
theorem tp_B (h : EP te Γ (pv K b)) : TP (tB te) Γ b := fun I F M σ e d Q k => h I F M σ e d _ fun v I' x y z => ⟨b, z, k I' x y⟩
theorem tp_not (h : TP tt Γ b) : TP (tNot tt) Γ (!b) := fun I F M σ e d Q k => h I F M σ e d _ fun I' x y => k I' x y
theorem tp_and (h1 : TP tt Γ a) (h2 : a = true → TP tu Γ b) : TP (tAnd tt tu) Γ (a && b) := fun I F M σ e d Q k => h1 I F M σ e d _ fun I1 x1 y1 => by
  cases a with
  | true =>
    show tu σ (ov M I1) Q
    exact h2 rfl I1 F M σ (e.up x1) y1 _ fun I2 x2 y2 => k I2 (x1.trans x2) y2
  | false => exact k I1 x1 y1
theorem tp_or (h1 : TP tt Γ a) (h2 : a = false → TP tu Γ b) : TP (tOr tt tu) Γ (a || b) := fun I F M σ e d Q k => h1 I F M σ e d _ fun I1 x1 y1 => by
  cases a with
  | true => exact k I1 x1 y1
  | false =>
    show tu σ (ov M I1) Q
    exact h2 rfl I1 F M σ (e.up x1) y1 _ fun I2 x2 y2 => k I2 (x1.trans x2) y2
theorem ep_andV (h1 : EP ta Γ (pv K a)) (h2 : a = true → EP tb Γ (pv K b)) : EP (tAndV ta tb) Γ (pv K (a && b)) := fun I F M σ e d Q k => h1 I F M σ e d _ fun v I1 x1 y1 z1 => ⟨a, z1, by
  cases a with
  | true =>
    show tb σ (ov M I1) Q
    exact h2 rfl I1 F M σ (e.up x1) y1 _ fun v I2 x2 y2 z2 => k v I2 (x1.trans x2) y2 z2
  | false => exact k _ I1 x1 y1 rfl⟩
theorem ep_orV (h1 : EP ta Γ (pv K a)) (h2 : a = false → EP tb Γ (pv K b)) : EP (tOrV ta tb) Γ (pv K (a || b)) := fun I F M σ e d Q k => h1 I F M σ e d _ fun v I1 x1 y1 z1 => ⟨a, z1, by
  cases a with
  | true => exact k _ I1 x1 y1 rfl
  | false =>
    show tb σ (ov M I1) Q
    exact h2 rfl I1 F M σ (e.up x1) y1 _ fun v I2 x2 y2 z2 => k v I2 (x1.trans x2) y2 z2⟩
theorem ep_notV (h1 : EP ta Γ (pv K a)) : EP (tNotV ta) Γ (pv K (!a)) := fun I F M σ e d Q k => h1 I F M σ e d _ fun v I1 x1 y1 z1 => ⟨a, z1, k _ I1 x1 y1 rfl⟩
theorem ep_chain (ha : EP ta Γ p) (hb : EP tb Γ q) (hc : EP tc Γ q2) (h : Op2 r p q (pv K a)) (h' : Op2 r' q q2 (pv K b)) : EP (tChain r r' ta tb tc) Γ (pv K (a && b)) := fun I F M σ e d Q k =>
  ha I F M σ e d _ fun x I1 x1 y1 z1 => hb I1 F M σ (e.up x1) y1 _ fun y I2 x2 y2 z2 => h I2 M x y _ y2 (p.up x2 z1) z2 fun v I3 x3 y3 z3 => ⟨a, z3, by
    cases a with
    | true =>
      show tc σ (ov M I3) _
      exact hc I3 F M σ (e.up ((x1.trans x2).trans x3)) y3 _ fun u I4 x4 y4 z4 => h' I4 M y u Q y4 (q.up (x3.trans x4) z2) z4 fun v I5 x5 y5 z5 => k v I5 ((((x1.trans x2).trans x3).trans x4).trans x5) y5 z5
    | false => exact k _ I3 ((x1.trans x2).trans x3) y3 rfl⟩
theorem ep_if {α : Type} [Rp α] {x y : α} (h : TP tt Γ b) (h1 : b = true → EP ta Γ (pv K x)) (h2 : b = false → EP tb Γ (pv K y)) : EP (tIf tt ta tb) Γ (pv K (cond b x y)) := fun I F M σ e d Q k => h I F M σ e d _ fun I1 x1 y1 => by
  cases b with
  | true => exact h1 rfl I1 F M σ (e.up x1) y1 Q fun v I2 x2 y2 z2 => k v I2 (x1.trans x2) y2 z2
  | false => exact h2 rfl I1 F M σ (e.up x1) y1 Q fun v I2 x2 y2 z2 => k v I2 (x1.trans x2) y2 z2
end
section
variable {S α β γ : Type} [SH S] [Rp α] {Γ : S → List Sl} {te ta tb tc : TE} {tt tu : TT}
theorem tm_test {m : Mn S Bool} (h : EM K te Γ m) : TM (tTest te) Γ m := fun s I F M σ e d Q q => h s I F M σ e d _ (R.sat_imp q fun b s' q v I' M' a1 d1 e1 r1 => ⟨b, r1, q I' M' a1 d1 e1⟩)
theorem tm_B {m : Mn S Bool} (h : EM K te Γ m) : TM (tB te) Γ m := fun s I F M σ e d Q q => h s I F M σ e d _ (R.sat_imp q fun b s' q v I' M' a1 d1 e1 r1 => ⟨b, r1, q I' M' a1 d1 e1⟩)
theorem tm_not {m : Mn S Bool} (h : TM tt Γ m) : TM (tNot tt) Γ (mb m fun b => mp (!b)) := fun s I F M σ e d Q q => h s I F M σ e d _ (R.sat_imp (sat_mb.mp q) fun b s' q I' M' a1 d1 e1 => q I' M' a1 d1 e1)
theorem tm_and {m1 m2 : Mn S Bool} (h1 : TM tt Γ m1) (h2 : TM tu Γ m2) : TM (tAnd tt tu) Γ (mb m1 fun b => mi b m2 (mp false)) := fun s I F M σ e d Q q => h1 s I F M σ e d _ (R.sat_imp (sat_mb.mp q) fun b s1 q I1 M1 a1 d1 e1 => by
  cases b with
  | true =>
    show tu σ (ov M1 I1) Q
    exact h2 s1 I1 F M1 σ e1 d1 _ (R.sat_imp q fun b s2 q I2 M2 a2 d2 e2 => q I2 M2 (a1.trans a2) d2 e2)
  | false => exact q I1 M1 a1 d1 e1)
theorem tm_or {m1 m2 : Mn S Bool} (h1 : TM tt Γ m1) (h2 : TM tu Γ m2) : TM (tOr tt tu) Γ (mb m1 fun b => mi b (mp true) m2) := fun s I F M σ e d Q q => h1 s I F M σ e d _ (R.sat_imp (sat_mb.mp q) fun b s1 q I1 M1 a1 d1 e1 => by
  cases b with
  | true => exact q I1 M1 a1 d1 e1
  | false =>
    show tu σ (ov M1 I1) Q
    exact h2 s1 I1 F M1 σ e1 d1 _ (R.sat_imp q fun b s2 q I2 M2 a2 d2 e2 => q I2 M2 (a1.trans a2) d2 e2))
theorem em_andV {m1 m2 : Mn S Bool} (h1 : EM K ta Γ m1) (h2 : EM K tb Γ m2) : EM K (tAndV ta tb) Γ (mb m1 fun b => mi b m2 (mp false)) := fun s I F M σ e d Q q => h1 s I F M σ e d _ (R.sat_imp (sat_mb.mp q) fun b s1 q v1 I1 M1 a1 d1 e1 r1 => ⟨b, r1, by
  cases b with
  | true =>
    show tb σ (ov M1 I1) Q
    exact h2 s1 I1 F M1 σ e1 d1 _ (R.sat_imp q fun b s2 q v I2 M2 a2 d2 e2 => q v I2 M2 (a1.trans a2) d2 e2)
  | false => exact q _ I1 M1 a1 d1 e1 rfl⟩)
theorem em_orV {m1 m2 : Mn S Bool} (h1 : EM K ta Γ m1) (h2 : EM K tb Γ m2) : EM K (tOrV ta tb) Γ (mb m1 fun b => mi b (mp true) m2) := fun s I F M σ e d Q q => h1 s I F M σ e d _ (R.sat_imp (sat_mb.mp q) fun b s1 q v1 I1 M1 a1 d1 e1 r1 => ⟨b, r1, by
  cases b with
  | true => exact q _ I1 M1 a1 d1 e1 rfl
  | false =>
    show tb σ (ov M1 I1) Q
    exact h2 s1 I1 F M1 σ e1 d1 _ (R.sat_imp q fun b s2 q v I2 M2 a2 d2 e2 => q v I2 M2 (a1.trans a2) d2 e2)⟩)
theorem em_notV {m1 : Mn S Bool} (h1 : EM K ta Γ m1) : EM K (tNotV ta) Γ (mb m1 fun b => mp (!b)) := fun s I F M σ e d Q q => h1 s I F M σ e d _ (R.sat_imp (sat_mb.mp q) fun b s1 q v1 I1 M1 a1 d1 e1 r1 => ⟨b, r1, q _ I1 M1 a1 d1 e1 rfl⟩)
theorem em_if {m : Mn S Bool} {m1 m2 : Mn S α} (h : TM tt Γ m) (h1 : EM K ta Γ m1) (h2 : EM K tb Γ m2) : EM K (tIf tt ta tb) Γ (mb m fun b => mi b m1 m2) := fun s I F M σ e d Q q => h s I F M σ e d _ (R.sat_imp (sat_mb.mp q) fun b s1 q I1 M1 a1 d1 e1 => by
  cases b with
  | true => exact h1 s1 I1 F M1 σ e1 d1 Q (R.sat_imp q fun b s2 q v I2 M2 a2 d2 e2 => q v I2 M2 (a1.trans a2) d2 e2)
  | false => exact h2 s1 I1 F M1 σ e1 d1 Q (R.sat_imp q fun b s2 q v I2 M2 a2 d2 e2 => q v I2 M2 (a1.trans a2) d2 e2))
/-- the test known -/
theorem em_ifp {b : S → Bool} {m1 m2 : Mn S α} (h : ∀ s, TP tt (Γ s) (b s)) (h1 : EM K ta Γ m1) (h2 : EM K tb Γ m2) : EM K (tIf tt ta tb) Γ (mb (mg b) fun b => mi b m1 m2) := em_if (tm_p h) h1 h2
end

/-! ### arguments -/
section
/-- arguments of known values -/
def AP (ta : TA) (Γ : List Sl) (ps : List PV) : Prop := ∀ (I F M : Hp) (σ : L2.St), EnvX I M σ Γ → Dis M I → ∀ Q : List V → Hp → Prop, (∀ vs I', Ex I I' → Dis M I' → All2 (fun (p : PV) v => p.r I' v) ps vs → Q vs (ov M I')) → ta σ (ov M I) Q
theorem pvs_up {I I' : Hp} (e : Ex I I') {ps : List PV} {vs : List V} (h : All2 (fun (p : PV) v => p.r I v) ps vs) : All2 (fun (p : PV) v => p.r I' v) ps vs := h.imp fun p _ q => p.up e q
variable {Γ : List Sl} {p : PV} {ps : List PV} {te : TE} {ta : TA}
theorem ap_nil : AP tNil Γ [] := fun I F M σ e d Q k => k [] I (Ex.refl I) d .nil
theorem ap_cons (h : EP te Γ p) (t : AP ta Γ ps) : AP (tCons te ta) Γ (p :: ps) := fun I F M σ e d Q k =>
  h I F M σ e d _ fun v I1 a1 d1 r1 => t I1 F M σ (e.up a1) d1 _ fun vs I2 a2 d2 r2 => k (v :: vs) I2 (a1.trans a2) d2 (.cons (p.up a2 r1) r2)
/-- arguments that are checked or change what is owned: m gives a datum of them -/
def AM {S ρ : Type} [SH S] (ta : TA) (Γ : S → List Sl) (m : Mn S ρ) (ps : ρ → List PV) : Prop := ∀ (s : S) (I F M : Hp) (σ : L2.St), EnvG s I F M σ (Γ s) → Dis M I → ∀ Q : List V → Hp → Prop,
  (m s).sat (fun x s' => ∀ vs I' M', Ex I I' → Dis M' I' → EnvG s' I' F M' σ (Γ s') → All2 (fun (p : PV) v => p.r I' v) (ps x) vs → Q vs (ov M' I')) → ta σ (ov M I) Q
section
variable {S ρ α : Type} [SH S] [Rp α] {Γ : S → List Sl} {te : TE} {ta : TA}
theorem am_p {f : S → ρ} {ps : ρ → List PV} (h : ∀ s, AP ta (Γ s) (ps (f s))) : AM ta Γ (mg f) ps := fun s I F M σ e d Q q => h s I F M σ e d Q fun vs I' a b c => q vs I' M a b (e.up a) c
theorem am_nil : AM (S := S) tNil Γ (mp ()) (fun _ => []) := fun s I F M σ e d Q k => k [] I M (Ex.refl I) d e .nil
theorem am_cons {m1 : Mn S α} {m2 : Mn S ρ} {ps : ρ → List PV} (h : EM K te Γ m1) (t : AM ta Γ m2 ps) : AM (tCons te ta) Γ (mb m1 fun x => mb m2 fun y => mp (x, y)) (fun z => pv K z.1 :: ps z.2) := fun s I F M σ e d Q q =>
  h s I F M σ e d _ (R.sat_imp (sat_mb.mp q) fun x s1 q v I1 M1 a1 d1 e1 r1 => t s1 I1 F M1 σ e1 d1 _ (R.sat_imp (sat_mb.mp q) fun y s2 q vs I2 M2 a2 d2 e2 r2 =>
    q (v :: vs) I2 M2 (a1.trans a2) d2 e2 (.cons (Rp.up a2 r1) r2)))
end

/-! ### displays -/
/-- values as one type -/
theorem rs_of {α : Type} [Rp α] {I : Hp} : ∀ {xs : List α} {vs : List V}, All2 (fun (p : PV) v => p.r I v) (xs.map (pv K)) vs → Rs K xs I vs
  | [], _, .nil => .nil
  | _ :: _, _, .cons h t => .cons h (rs_of t)
theorem sz2 {n : Nat} (h : n ≤ 1000) : n ≤ sizeLine := Nat.le_trans h (by decide)
theorem mk_list {α : Type} [Rp α] {xs : List α} {I M : Hp} {p : Addr} {vs : List V} (d : Dis M I) (hp : ov M I p = none) (h : Rs K xs I vs) : Ex I (upd I p (.lst vs)) ∧ Dis M (upd I p (.lst vs)) ∧ Rp.r K xs (upd I p (.lst vs)) (.ref p) ∧ upd (ov M I) p (.lst vs) = ov M (upd I p (.lst vs)) := by
  obtain ⟨h1, h2⟩ := ov_none hp
  exact ⟨Ex.new h2, dis_upd d h1, ⟨p, vs, rfl, upd_same, rs_up (Ex.new h2) h⟩, ov_upd h1⟩
theorem mk_tup {I M : Hp} {p : Addr} {vs : List V} (d : Dis M I) (hp : ov M I p = none) : Ex I (upd I p (.tup vs)) ∧ Dis M (upd I p (.tup vs)) ∧ SqT K (upd I p (.tup vs)) p vs ∧ upd (ov M I) p (.tup vs) = ov M (upd I p (.tup vs)) := by
  obtain ⟨h1, h2⟩ := ov_none hp
  exact ⟨Ex.new h2, dis_upd d h1, SqT.of upd_same, ov_upd h1⟩
theorem ep_lst {α : Type} [Rp α] {xs : List α} (h : AP ta Γ (xs.map (pv K))) (hl : xs.length ≤ 1000 := by decide) : EP (tLst ta) Γ (pv K xs) := fun I F M σ e d Q k => h I F M σ e d _ fun vs I1 a1 d1 r1 => by
  have r := rs_of r1
  refine ⟨by rw [← r.length]; exact sz2 hl, fun p hp => ?_⟩
  obtain ⟨x1, x2, x3, x4⟩ := mk_list d1 hp r
  rw [x4]
  exact k _ _ (a1.trans x1) x2 x3
theorem em_lst {S ρ α : Type} [SH S] [Rp α] {Γ : S → List Sl} {m : Mn S ρ} {f : ρ → List α} (h : AM ta Γ m fun z => (f z).map (pv K)) (hl : ∀ z, (f z).length ≤ 1000 := by intro _; decide) : EM K (tLst ta) Γ (mb m fun z => mp (f z)) := fun s I F M σ e d Q q =>
  h s I F M σ e d _ (R.sat_imp (sat_mb.mp q) fun z s1 q vs I1 M1 a1 d1 e1 r1 => by
  have r := rs_of r1
  refine ⟨by rw [← r.length]; exact sz2 (hl z), fun p hp => ?_⟩
  obtain ⟨x1, x2, x3, x4⟩ := mk_list d1 hp r
  rw [x4]
  exact q _ _ _ (a1.trans x1) x2 (e1.up x1) x3)
/-- what a tuple of such values stands for -/
def TupOf (K : PySem.W.Frag) {α : Type} [Rp α] (ps : List PV) (x : α) : Prop := ps.length ≤ 1000 ∧ ∀ (I : Hp) (p : Addr) (vs : List V), All2 (fun (p : PV) v => p.r I v) ps vs → SqT K I p vs → Rp.r K x I (.ref p)
theorem tupTu {α : Type} [Rp α] {xs : List α} (hl : xs.length ≤ 1000 := by decide) : TupOf K (xs.map (pv K)) (Tu.mk xs) := ⟨by rw [List.length_map]; exact hl, fun I p vs h q => ⟨p, vs, rfl, q, rs_of h⟩⟩
theorem all2_c {α β : Type} {F : α → β → Prop} {a : α} {as : List α} {bs : List β} (h : All2 F (a :: as) bs) : ∃ b bs', bs = b :: bs' ∧ F a b ∧ All2 F as bs' := by
  cases h with
  | cons h t => exact ⟨_, _, rfl, h, t⟩
theorem all2_n {α β : Type} {F : α → β → Prop} {bs : List β} (h : All2 F [] bs) : bs = [] := by
  cases h with
  | nil => rfl
theorem tup2 {α β : Type} [Rp α] [Rp β] {x : α} {y : β} : TupOf K [pv K x, pv K y] (x, y) := ⟨Nat.le_of_ble_eq_true rfl, fun I p vs h q => by
  obtain ⟨v1, _, rfl, h1, h⟩ := all2_c h
  obtain ⟨v2, _, rfl, h2, h⟩ := all2_c h
  cases all2_n h
  exact ⟨p, _, _, rfl, q, h1, h2⟩⟩
theorem tup3 {α β γ : Type} [Rp α] [Rp β] [Rp γ] {x : α} {y : β} {z : γ} : TupOf K [pv K x, pv K y, pv K z] (T3.mk x y z) := ⟨Nat.le_of_ble_eq_true rfl, fun I p vs h q => by
  obtain ⟨v1, _, rfl, h1, h⟩ := all2_c h
  obtain ⟨v2, _, rfl, h2, h⟩ := all2_c h
  obtain ⟨v3, _, rfl, h3, h⟩ := all2_c h
  cases all2_n h
  exact ⟨p, _, _, _, rfl, q, h1, h2, h3⟩⟩
theorem tup4 {α β γ δ : Type} [Rp α] [Rp β] [Rp γ] [Rp δ] {x : α} {y : β} {z : γ} {w : δ} : TupOf K [pv K x, pv K y, pv K z, pv K w] (T4.mk x y z w) := ⟨Nat.le_of_ble_eq_true rfl, fun I p vs h q => by
  obtain ⟨v1, _, rfl, h1, h⟩ := all2_c h
  obtain ⟨v2, _, rfl, h2, h⟩ := all2_c h
  obtain ⟨v3, _, rfl, h3, h⟩ := all2_c h
  obtain ⟨v4, _, rfl, h4, h⟩ := all2_c h
  cases all2_n h
  exact ⟨p, _, _, _, _, rfl, q, h1, h2, h3, h4⟩⟩
theorem tup5 {α β γ δ ε : Type} [Rp α] [Rp β] [Rp γ] [Rp δ] [Rp ε] {x : α} {y : β} {z : γ} {w : δ} {u : ε} : TupOf K [pv K x, pv K y, pv K z, pv K w, pv K u] (T5.mk x y z w u) := ⟨Nat.le_of_ble_eq_true rfl, fun I p vs h q => by
  obtain ⟨v1, _, rfl, h1, h⟩ := all2_c h
  obtain ⟨v2, _, rfl, h2, h⟩ := all2_c h
  obtain ⟨v3, _, rfl, h3, h⟩ := all2_c h
  obtain ⟨v4, _, rfl, h4, h⟩ := all2_c h
  obtain ⟨v5, _, rfl, h5, h⟩ := all2_c h
  cases all2_n h
  exact ⟨p, _, _, _, _, _, rfl, q, h1, h2, h3, h4, h5⟩⟩
theorem ep_tup {α : Type} [Rp α] {x : α} (h : AP ta Γ ps) (t : TupOf K ps x) : EP (tTup ta) Γ (pv K x) := fun I F M σ e d Q k => h I F M σ e d _ fun vs I1 a1 d1 r1 => by
  refine ⟨by rw [← r1.length]; exact sz2 t.1, fun p hp => ?_⟩
  obtain ⟨x1, x2, x3, x4⟩ := mk_tup (K := K) (vs := vs) d1 hp
  rw [x4]
  exact k _ _ (a1.trans x1) x2 (t.2 _ _ _ (pvs_up x1 r1) x3)
theorem em_tup {S ρ α : Type} [SH S] [Rp α] {Γ : S → List Sl} {m : Mn S ρ} {f : ρ → α} {ps : ρ → List PV} (h : AM ta Γ m ps) (t : ∀ z, TupOf K (ps z) (f z)) : EM K (tTup ta) Γ (mb m fun z => mp (f z)) := fun s I F M σ e d Q q =>
  h s I F M σ e d _ (R.sat_imp (sat_mb.mp q) fun z s1 q vs I1 M1 a1 d1 e1 r1 => by
  refine ⟨by rw [← r1.length]; exact sz2 (t z).1, fun p hp => ?_⟩
  obtain ⟨x1, x2, x3, x4⟩ := mk_tup (K := K) (vs := vs) d1 hp
  rw [x4]
  exact q _ _ _ (a1.trans x1) x2 (e1.up x1) ((t z).2 _ _ _ (pvs_up x1 r1) x3))
end

/-! ### items -/
section
variable {α : Type} [Rp α] {xs : List α} {i : Int} {x : α} {I M : Hp}
theorem rs_at {vs : List V} (h : Rs K xs I vs) (e : atI xs i = some x) : ∃ v, atI vs i = some v ∧ Rp.r K x I v := by
  obtain ⟨j, h1, h2⟩ := Option.bind_eq_some_iff.mp e
  obtain ⟨v, h3, h4⟩ := h.get h2
  exact ⟨v, Option.bind_eq_some_iff.mpr ⟨j, by rw [← h.length]; exact h1, h3⟩, h4⟩
theorem sql_ov {a : Addr} {vs : List V} (d : Dis M I) (h : SqL K I a vs) : SqL K (ov M I) a vs := sql_up (ex_ov d) h
theorem sqt_ov {a : Addr} {vs : List V} (d : Dis M I) (h : SqT K I a vs) : SqT K (ov M I) a vs := sqt_up (ex_ov d) h
theorem o_ixL (e : atI xs i = some x) : Op2 (rIxL K) (pv K xs) (pv K i) (pv K x) := fun I M u w Q d ⟨a, vs, h1, h2, h3⟩ hy k => by
  obtain ⟨v, q1, q2⟩ := rs_at h3 e
  exact ⟨a, vs, i, v, h1, hy, SqL.of (ex_ov d _ _ h2), q1, k v I (Ex.refl I) d q2⟩
theorem o_ixT (e : atI xs i = some x) : Op2 (rIxT K) (pv K (Tu.mk xs)) (pv K i) (pv K x) := fun I M u w Q d ⟨a, vs, h1, h2, h3⟩ hy k => by
  obtain ⟨v, q1, q2⟩ := rs_at h3 e
  exact ⟨a, vs, i, v, h1, hy, sqt_ov d h2, q1, k v I (Ex.refl I) d q2⟩
section
variable {S : Type} [SH S] {Γ : S → List Sl} {ta tb : TE}
theorem em_ixL {m1 : Mn S (List α)} {m2 : Mn S Int} (ha : EM K ta Γ m1) (hb : EM K tb Γ m2) : EM K (tOp (rIxL K) ta tb) Γ (mb m1 fun xs => mb m2 fun i => mo (atI xs i)) := fun s I F M σ e d Q q =>
  ha s I F M σ e d _ (R.sat_imp (sat_mb.mp q) fun x s1 q v1 I1 M1 a1 d1 e1 r1 => hb s1 I1 F M1 σ e1 d1 _ (R.sat_imp (sat_mb.mp q) fun y s2 q v2 I2 M2 a2 d2 e2 r2 => by
    obtain ⟨z, hz, q⟩ := sat_mo.mp q
    exact o_ixL hz I2 M2 v1 v2 Q d2 (Rp.up a2 r1) r2 fun v I3 a3 d3 r3 => q v I3 M2 ((a1.trans a2).trans a3) d3 (e2.up a3) r3))
theorem em_ixLr {m1 : Mn S (List α)} (ha : EM K ta Γ m1) (hb : ∀ s, EP tb (Γ s) (pv K i)) : EM K (tOp (rIxL K) ta tb) Γ (mb m1 fun xs => mo (atI xs i)) := fun s I F M σ e d Q q =>
  ha s I F M σ e d _ (R.sat_imp (sat_mb.mp q) fun x s1 q v1 I1 M1 a1 d1 e1 r1 => hb s1 I1 F M1 σ e1 d1 _ fun v2 I2 a2 d2 r2 => by
    obtain ⟨z, hz, q⟩ := sat_mo.mp q
    exact o_ixL hz I2 M1 v1 v2 Q d2 (Rp.up a2 r1) r2 fun v I3 a3 d3 r3 => q v I3 M1 ((a1.trans a2).trans a3) d3 (e1.up (a2.trans a3)) r3)
theorem em_ixLp (ha : ∀ s, EP ta (Γ s) (pv K xs)) (hb : ∀ s, EP tb (Γ s) (pv K i)) : EM K (tOp (rIxL K) ta tb) Γ (mo (atI xs i)) := fun s I F M σ e d Q q => by
  obtain ⟨z, hz, q⟩ := sat_mo.mp q
  exact ep_op (ha s) (hb s) (o_ixL hz) I F M σ e d Q fun v I3 a3 d3 r3 => q v I3 M a3 d3 (e.up a3) r3
theorem em_ixLl {m2 : Mn S Int} (ha : ∀ s, EP ta (Γ s) (pv K xs)) (hb : EM K tb Γ m2) : EM K (tOp (rIxL K) ta tb) Γ (mb m2 fun i => mo (atI xs i)) := fun s I F M σ e d Q q =>
  ha s I F M σ e d _ fun v1 I1 a1 d1 r1 => hb s I1 F M σ (e.up a1) d1 _ (R.sat_imp (sat_mb.mp q) fun y s2 q v2 I2 M2 a2 d2 e2 r2 => by
    obtain ⟨z, hz, q⟩ := sat_mo.mp q
    exact o_ixL hz I2 M2 v1 v2 Q d2 (Rp.up a2 r1) r2 fun v I3 a3 d3 r3 => q v I3 M2 ((a1.trans a2).trans a3) d3 (e2.up a3) r3)
theorem em_ixTr {m1 : Mn S (Tu α)} (ha : EM K ta Γ m1) (hb : ∀ s, EP tb (Γ s) (pv K i)) : EM K (tOp (rIxT K) ta tb) Γ (mb m1 fun xs => mo (atI xs.l i)) := fun s I F M σ e d Q q =>
  ha s I F M σ e d _ (R.sat_imp (sat_mb.mp q) fun x s1 q v1 I1 M1 a1 d1 e1 r1 => hb s1 I1 F M1 σ e1 d1 _ fun v2 I2 a2 d2 r2 => by
    obtain ⟨z, hz, q⟩ := sat_mo.mp q
    exact o_ixT hz I2 M1 v1 v2 Q d2 (Rp.up a2 r1) r2 fun v I3 a3 d3 r3 => q v I3 M1 ((a1.trans a2).trans a3) d3 (e1.up (a2.trans a3)) r3)
theorem em_ixTp {t : Tu α} (ha : ∀ s, EP ta (Γ s) (pv K t)) (hb : ∀ s, EP tb (Γ s) (pv K i)) : EM K (tOp (rIxT K) ta tb) Γ (mo (atI t.l i)) := fun s I F M σ e d Q q => by
  obtain ⟨z, hz, q⟩ := sat_mo.mp q
  exact ep_op (ha s) (hb s) (o_ixT (xs := t.l) hz) I F M σ e d Q fun v I3 a3 d3 r3 => q v I3 M a3 d3 (e.up a3) r3
end
/-- a part of a written tuple -/
theorem o_pr {p w : PV} {i : Int} (h : ∀ I v, p.r I v → ∃ a vs u, v = V.ref a ∧ SqT K I a vs ∧ atI vs i = some u ∧ w.r I u) : Op2 (rIxT K) p (pv K i) w := fun I M x y Q d hx hy k => by
  obtain ⟨a, vs, u, h1, h2, h3, h4⟩ := h I x hx
  exact ⟨a, vs, i, u, h1, hy, sqt_ov d h2, h3, k u I (Ex.refl I) d h4⟩
theorem pr2_0 {α β : Type} [Rp α] [Rp β] {x : α × β} : Op2 (rIxT K) (pv K x) (pv K (0 : Int)) (pv K x.1) := o_pr fun I v ⟨a, v1, v2, h1, h2, h3, h4⟩ => ⟨a, _, v1, h1, h2, rfl, h3⟩
theorem pr2_1 {α β : Type} [Rp α] [Rp β] {x : α × β} : Op2 (rIxT K) (pv K x) (pv K (1 : Int)) (pv K x.2) := o_pr fun I v ⟨a, v1, v2, h1, h2, h3, h4⟩ => ⟨a, _, v2, h1, h2, rfl, h4⟩
theorem pr3_0 {α β γ : Type} [Rp α] [Rp β] [Rp γ] {x : T3 α β γ} : Op2 (rIxT K) (pv K x) (pv K (0 : Int)) (pv K x.a) := o_pr fun I v ⟨a, v1, v2, v3, h1, h2, h3, h4, h5⟩ => ⟨a, _, v1, h1, h2, rfl, h3⟩
theorem pr3_1 {α β γ : Type} [Rp α] [Rp β] [Rp γ] {x : T3 α β γ} : Op2 (rIxT K) (pv K x) (pv K (1 : Int)) (pv K x.b) := o_pr fun I v ⟨a, v1, v2, v3, h1, h2, h3, h4, h5⟩ => ⟨a, _, v2, h1, h2, rfl, h4⟩
theorem pr3_2 {α β γ : Type} [Rp α] [Rp β] [Rp γ] {x : T3 α β γ} : Op2 (rIxT K) (pv K x) (pv K (2 : Int)) (pv K x.c) := o_pr fun I v ⟨a, v1, v2, v3, h1, h2, h3, h4, h5⟩ => ⟨a, _, v3, h1, h2, rfl, h5⟩
/-- an item of an owned list of written values -/
theorem ep_hl {Γ : List Sl} {j : Nat} {vs : List V} {P : OP} {α : Type} [Rp α] {x : α} {tb : TE} {i : Int} {u : V} (hj : Γ[j]? = some (.ow P)) (hP : ∀ I a M, P.r I a M → M = sing a (.lst vs)) (hb : EP tb Γ (pv K i)) (e : atI vs i = some u) (hx : ∀ H, Rp.r K x H u) : EP (tOp (rIxL K) (tVar j) tb) Γ (pv K x) := fun I F M σ e1 d Q k => by
  obtain ⟨a, Ma, M', h1, h2, h3, h4⟩ := e1.foc hj
  refine ⟨_, h1, ?_⟩
  refine hb I F M σ e1 d _ fun v I1 a1 d1 r1 => ?_
  have em := hP _ _ _ h2
  refine ⟨a, vs, i, u, rfl, r1, SqL.of ?_, e, k u I1 a1 d1 (hx I1)⟩
  rw [h4, em]
  exact ov_l (ov_l sing_same)
theorem hl_at {vs : List V} {v : V} : ∀ I a M, ((hl vs).at v).r I a M → M = sing a (.lst vs) := fun _ _ _ h => h.2
theorem hl_self {vs : List V} : ∀ I a M, (hl vs).r I a M → M = sing a (.lst vs) := fun _ _ _ h => h
end
end
end Mir

/-! Mir4: promises by mirrors, calls; statements; loops; comprehensions -/
namespace Mir
open PySem L2

/-! ### more of slots -/
section
variable {I F N : Hp} {σ : L2.St} {Γ : List Sl}
theorem EnvOk.ims {ps : List PV} {vs : List V} : All2 (fun (p : PV) v => p.r I v) ps vs → EnvOk I F F (vs.map some) (ps.map Sl.im)
  | .nil => .nil
  | .cons h t => .im h (EnvOk.ims t)
theorem EnvOk.of_ims : ∀ {ps : List PV} {N : Hp} {σ : L2.St}, EnvOk I F N σ (ps.map Sl.im) → N = F
  | [], _, _, .nil => rfl
  | _ :: _, _, _, .im _ h => EnvOk.of_ims h
theorem EnvOk.nos : ∀ {k : Nat} {N : Hp} {σ : L2.St}, EnvOk I F N σ (List.replicate k .no) → N = F
  | 0, _, _, .nil => rfl
  | _ + 1, _, _, .no _ h => EnvOk.nos h
theorem EnvOk.app : ∀ {N : Hp} {σ : L2.St} {Γ : List Sl}, EnvOk I F N σ Γ → ∀ k : Nat, EnvOk I F N (σ ++ List.replicate k none) (Γ ++ List.replicate k .no)
  | _, _, _, .nil, 0 => .nil
  | _, _, _, .nil, k + 1 => .no none (EnvOk.app .nil k)
  | _, _, _, .no o h, k => .no o (EnvOk.app h k)
  | _, _, _, .im q h, k => .im q (EnvOk.app h k)
  | _, _, _, .ow q d h, k => .ow q d (EnvOk.app h k)
/-- more is owned besides -/
theorem EnvOk.frame {G : Hp} : ∀ {N : Hp} {σ : L2.St} {Γ : List Sl}, EnvOk I F N σ Γ → Dis G N → EnvOk I (ov G F) (ov G N) σ Γ
  | _, _, _, .nil, _ => .nil
  | _, _, _, .no o h, d => .no o (EnvOk.frame h d)
  | _, _, _, .im q h, d => .im q (EnvOk.frame h d)
  | _, _, _, .ow (Ma := Ma) (M := N) q d' h, d => by
    obtain ⟨d1, d2⟩ := dis_r_ov d
    have e : ov G (ov Ma N) = ov Ma (ov G N) := by rw [ov_assoc, ov_assoc, ov_comm d1]
    rw [e]
    exact .ow q (dis_ov_r d1.symm d') (EnvOk.frame h d2)
theorem EnvOk.unframe {G : Hp} (dF : Dis G F) : ∀ {N : Hp} {σ : L2.St} {Γ : List Sl}, EnvOk I (ov G F) N σ Γ → ∃ N', N = ov G N' ∧ Dis G N' ∧ EnvOk I F N' σ Γ
  | _, _, _, .nil => ⟨F, rfl, dF, .nil⟩
  | _, _, _, .no o h => by
    obtain ⟨N', h1, h2, h3⟩ := EnvOk.unframe dF h
    exact ⟨N', h1, h2, .no o h3⟩
  | _, _, _, .im q h => by
    obtain ⟨N', h1, h2, h3⟩ := EnvOk.unframe dF h
    exact ⟨N', h1, h2, .im q h3⟩
  | _, _, _, .ow (Ma := Ma) q d h => by
    obtain ⟨N', h1, h2, h3⟩ := EnvOk.unframe dF h
    subst h1
    obtain ⟨d1, d2⟩ := dis_r_ov d
    exact ⟨ov Ma N', by rw [ov_assoc, ov_assoc, ov_comm d1], dis_ov_r d1.symm h2, .ow q d2 h3⟩
/-- what the slots own apart from the rest -/
theorem EnvOk.parts : ∀ {N : Hp} {σ : L2.St} {Γ : List Sl}, EnvOk I F N σ Γ → ∃ P, N = ov P F ∧ Dis P F ∧ ∀ I' F', Ex I I' → Dis P F' → EnvOk I' F' (ov P F') σ Γ
  | _, _, _, .nil => ⟨emp, ov_empl.symm, dis_emp, fun I' F' _ _ => by rw [ov_empl]; exact .nil⟩
  | _, _, _, .no o h => let ⟨P, h1, h2, h3⟩ := EnvOk.parts h; ⟨P, h1, h2, fun I' F' x d => .no o (h3 I' F' x d)⟩
  | _, _, _, .im (p := p) q h => let ⟨P, h1, h2, h3⟩ := EnvOk.parts h; ⟨P, h1, h2, fun I' F' x d => .im (p := p) (p.up x q) (h3 I' F' x d)⟩
  | _, _, _, .ow (p := p) (Ma := Ma) q d h => by
    obtain ⟨P, h1, h2, h3⟩ := EnvOk.parts h
    subst h1
    obtain ⟨d1, d2⟩ := dis_r_ov d
    refine ⟨ov Ma P, by rw [ov_assoc], dis_ov d2 h2, fun I' F' x d' => ?_⟩
    obtain ⟨d3, d4⟩ := dis_ov_l d'
    rw [← ov_assoc]
    exact .ow (p.up x q) (dis_ov_r d1 d3) (h3 I' F' x d4)
end
section
variable {S : Type} [SH S] {s : S} {I F N : Hp} {σ : L2.St} {Γ : List Sl}
theorem EnvG.app (h : EnvG s I F N σ Γ) (k : Nat) : EnvG s I F N (σ ++ List.replicate k none) (Γ ++ List.replicate k .no) := let ⟨G, h1, h2, e⟩ := h; ⟨G, h1, h2, e.app k⟩
theorem ov_swap {A B C : Hp} (d : Dis A B) : ov A (ov B C) = ov B (ov A C) := by rw [ov_assoc, ov_assoc, ov_comm d]
theorem EnvOk.sub' : ∀ {N : Hp} {σ : L2.St} {Γ : List Sl}, EnvOk I F N σ Γ → ∀ {a : Addr}, N a = none → F a = none
  | _, _, _, .nil, a, h => h
  | _, _, _, .no o e, a, h => EnvOk.sub' e h
  | _, _, _, .im q e, a, h => EnvOk.sub' e h
  | _, _, _, .ow q d e, a, h => EnvOk.sub' e (ov_none h).2
theorem EnvOk.dis {G : Hp} (e : EnvOk I F N σ Γ) (d : Dis G N) : Dis G F := fun a => by
  rcases d a with h | h
  · exact .inl h
  · exact .inr (e.sub' h)
theorem EnvG.frame {G : Hp} (h : EnvG s I F N σ Γ) (d : Dis G N) : EnvG s I (ov G F) (ov G N) σ Γ := by
  obtain ⟨G0, h1, h2, e⟩ := h
  have d0 := e.dis d
  obtain ⟨y1, y2⟩ := dis_r_ov d0
  refine ⟨G0, h1, dis_ov_r y1.symm h2, ?_⟩
  rw [ov_swap y1.symm]
  exact e.frame d
theorem EnvG.unframe {G : Hp} (dF : Dis G F) (h : EnvG s I (ov G F) N σ Γ) : ∃ N', N = ov G N' ∧ Dis G N' ∧ EnvG s I F N' σ Γ := by
  obtain ⟨G0, h1, h2, e⟩ := h
  obtain ⟨y1, y2⟩ := dis_r_ov h2
  rw [ov_swap y1] at e
  obtain ⟨N', x1, x2, x3⟩ := e.unframe (dis_ov_r y1.symm dF)
  exact ⟨N', x1, x2, G0, h1, y2, x3⟩
end

/-! ### promises -/
/-- a parameter: a value, or something owned, by the state -/
inductive Ar (S : Type) where
  | im (p : PV)
  | ow (P : S → OP)
def Ar.sl {S : Type} (s : S) : Ar S → Sl
  | .im p => .im p
  | .ow P => .ow (P s)
/-- how a value is handed back: by what is known of it | as something owned -/
abbrev RetT (ρ : Type) := ρ → V → Hp → Hp → Hp → Prop
def rIm (K : PySem.W.Frag) {ρ : Type} [Rp ρ] : RetT ρ := fun x v I N H => Dis N I ∧ H = ov N I ∧ Rp.r K x I v
def rOw {ρ : Type} (P : ρ → OP) : RetT ρ := fun x v I N H => ∃ a Ma, v = V.ref a ∧ Dis Ma N ∧ Dis (ov Ma N) I ∧ H = ov (ov Ma N) I ∧ (P x).r I a Ma
/-- called with such arguments it does what the mirror does -/
def Prom {S ρ ι : Type} [SH S] (Ret : RetT ρ) (As : ι → List (Ar S)) (m : ι → Mn S ρ) : Sp := fun vs H Q _ => ∃ (i : ι) (s : S) (I F N : Hp), H = ov N I ∧ Dis N I ∧ EnvG s I F N (vs.map some) ((As i).map (Ar.sl s)) ∧
  (m i s).sat fun x s' => ∀ v H' I' N', Ex I I' → EnvG s' I' F N' (vs.map some) ((As i).map (Ar.sl s')) → Ret x v I' N' H' → Q v H'
theorem prom_len {S ρ ι : Type} [SH S] {Ret : RetT ρ} {As : ι → List (Ar S)} {m : ι → Mn S ρ} {n : Nat} (h : ∀ i, (As i).length = n) : ∀ vs H Q E, Prom Ret As m vs H Q E → vs.length = n := fun vs H Q E ⟨i, s, I, F, N, _, _, e, _⟩ => by
  have l := e.len
  rw [List.length_map, List.length_map, h i] at l
  exact l

section
variable {K : PySem.W.Frag}
/-! ### calls -/
section
variable {S S' ρ ι ζ α : Type} [SH S] {Γ : S → List Sl} {ta tk : TA} {E : XK} {i : ι} {ps : List PV}
theorem call_all {Ret : RetT ρ} {As : ι → List (Ar Unit)} {m : ι → Mn Unit ρ} {I N : Hp} {vs : List V} {Q : VK} (d : Dis N I) (r : All2 (fun (p : PV) v => p.r I v) ps vs) (hA : (As i).map (Ar.sl ()) = ps.map Sl.im)
    (q : (m i ()).sat fun x _ => ∀ v H' I', Ex I I' → Ret x v I' N H' → Q v H') : Prom Ret As m vs (ov N I) Q E := by
  refine ⟨i, (), I, N, N, rfl, d, ?_, R.sat_imp q fun x s' q v H' I' N' a1 e1 r1 => ?_⟩
  · rw [hA]; exact EnvG.of (EnvOk.ims r)
  · cases s'
    rw [hA] at e1
    cases EnvOk.of_ims e1.unit
    exact q v H' I' a1 r1
/-- what an expression hands back: a value, or something owned -/
def EO {S ρ : Type} [SH S] (te : TE) (Γ : S → List Sl) (m : Mn S ρ) (Ret : RetT ρ) : Prop := ∀ (s : S) (I F N : Hp) (σ : L2.St), EnvG s I F N σ (Γ s) → Dis N I → ∀ Q : VK,
  (m s).sat (fun x s' => ∀ v H' I' N', Ex I I' → EnvG s' I' F N' σ (Γ s') → Ret x v I' N' H' → Q v H') → te σ (ov N I) Q
theorem em_of_eo [Rp α] {te : TE} {m : Mn S α} (h : EO te Γ m (rIm K)) : EM K te Γ m := fun s I F N σ e d Q q => h s I F N σ e d Q (R.sat_imp q fun x s' q v H' I' N' a1 e1 ⟨d1, h1, r1⟩ => by
  rw [h1]
  exact q v I' N' a1 d1 e1 r1)
/-- all arguments known -/
theorem eo_call0 {Ret : RetT ρ} {As : ι → List (Ar Unit)} {m : ι → Mn Unit ρ} (h : ∀ s, AP ta (Γ s) ps) (hA : (As i).map (Ar.sl ()) = ps.map Sl.im) : EO (tCall (Prom Ret As m) [] E ta) Γ (mu (m i)) Ret := fun s I F N σ e d Q q =>
  h s I F N σ e d _ fun vs I1 a1 d1 r1 => by
    show Prom Ret As m (vs ++ []) _ _ _
    rw [List.append_nil]
    exact call_all d1 r1 hA (R.sat_imp (sat_mu.mp q) fun x _ q v H' I' a2 r2 => q v H' I' N (a1.trans a2) (e.up (a1.trans a2)) r2)
theorem eo_call0M {Ret : RetT ρ} {As : ι → List (Ar Unit)} {m : ι → Mn Unit ρ} {mm : Mn S ζ} {psf : ζ → List PV} {f : ζ → ι} (h : AM ta Γ mm psf) (hA : ∀ z, (As (f z)).map (Ar.sl ()) = (psf z).map Sl.im) : EO (tCall (Prom Ret As m) [] E ta) Γ (mb mm fun z => mu (m (f z))) Ret := fun s I F N σ e d Q q =>
  h s I F N σ e d _ (R.sat_imp (sat_mb.mp q) fun z s1 q vs I1 N1 a1 d1 e1 r1 => by
    show Prom Ret As m (vs ++ []) _ _ _
    rw [List.append_nil]
    exact call_all d1 r1 (hA z) (R.sat_imp (sat_mu.mp q) fun x _ q v H' I' a2 r2 => q v H' I' N1 (a1.trans a2) (e1.up a2) r2))
/-- by names alone: gV puts the values in the parameters' order -/
theorem eo_callK {Ret : RetT ρ} {As : ι → List (Ar Unit)} {m : ι → Mn Unit ρ} {gV : List V → List V → List V} {qs : List PV} (h : ∀ s, AP tk (Γ s) ps) (hg : ∀ I vs, All2 (fun (p : PV) v => p.r I v) ps vs → All2 (fun (p : PV) v => p.r I v) qs (gV [] vs)) (hA : (As i).map (Ar.sl ()) = qs.map Sl.im) :
    EO (tCallK (Prom Ret As m) gV E tNil tk) Γ (mu (m i)) Ret := fun s I F N σ e d Q q =>
  h s I F N σ e d _ fun vs I1 a1 d1 r1 => call_all d1 (hg _ _ r1) hA (R.sat_imp (sat_mu.mp q) fun x _ q v H' I' a2 r2 => q v H' I' N (a1.trans a2) (e.up (a1.trans a2)) r2)
theorem eo_callKM {Ret : RetT ρ} {As : ι → List (Ar Unit)} {m : ι → Mn Unit ρ} {gV : List V → List V → List V} {mm : Mn S ζ} {psf qsf : ζ → List PV} {f : ζ → ι} (h : AM tk Γ mm psf) (hg : ∀ z I vs, All2 (fun (p : PV) v => p.r I v) (psf z) vs → All2 (fun (p : PV) v => p.r I v) (qsf z) (gV [] vs)) (hA : ∀ z, (As (f z)).map (Ar.sl ()) = (qsf z).map Sl.im) :
    EO (tCallK (Prom Ret As m) gV E tNil tk) Γ (mb mm fun z => mu (m (f z))) Ret := fun s I F N σ e d Q q =>
  h s I F N σ e d _ (R.sat_imp (sat_mb.mp q) fun z s1 q vs I1 N1 a1 d1 e1 r1 => call_all d1 (hg z _ _ r1) (hA z) (R.sat_imp (sat_mu.mp q) fun x _ q v H' I' a2 r2 => q v H' I' N1 (a1.trans a2) (e1.up a2) r2))
/-- a call in the caller's own state -/
theorem call_st {S ρ ι : Type} [SH S] {E : XK} {Ret : RetT ρ} {As : ι → List (Ar S)} {m : ι → Mn S ρ} {i : ι} {s : S} {I F N : Hp} {σ : L2.St} {Γ : List Sl} {ps : List PV} {vs : List V} {Q : VK} (e : EnvG s I F N σ Γ) (d : Dis N I) (r : All2 (fun (p : PV) v => p.r I v) ps vs) (hA : ∀ s', (As i).map (Ar.sl s') = ps.map Sl.im)
    (q : (m i s).sat fun x s' => ∀ v H' I' N', Ex I I' → EnvG s' I' F N' σ Γ → Ret x v I' N' H' → Q v H') : Prom Ret As m vs (ov N I) Q E := by
  obtain ⟨G, g1, g2, e⟩ := e
  obtain ⟨P, p1, p2, p3⟩ := e.parts
  obtain ⟨y1, y2⟩ := dis_r_ov p2
  have eN : N = ov G (ov P F) := by rw [p1, ov_swap y1]
  refine ⟨i, s, I, ov P F, N, rfl, d, ⟨G, g1, dis_ov_r y1.symm g2, ?_⟩, R.sat_imp q fun x s' q v H' I' N' a1 e1 r1 => ?_⟩
  · rw [hA, ← eN]
    exact EnvOk.ims r
  · obtain ⟨G', g1', g2', e'⟩ := e1
    rw [hA] at e'
    cases EnvOk.of_ims e'
    obtain ⟨z1, z2⟩ := dis_r_ov g2'
    refine q v H' I' _ a1 ⟨G', g1', z2, ?_⟩ r1
    rw [ov_swap z1]
    exact p3 I' _ a1 (dis_ov_r z1.symm y2)
theorem eo_callS {E : XK} {Ret : RetT ρ} {As : ι → List (Ar S)} {m : ι → Mn S ρ} {mm : Mn S ζ} {psf : ζ → List PV} {f : ζ → ι} (h : AM ta Γ mm psf) (hA : ∀ z s, (As (f z)).map (Ar.sl s) = (psf z).map Sl.im) (hΓ : ∀ s s', Γ s = Γ s') : EO (tCall (Prom Ret As m) [] E ta) Γ (mb mm fun z => m (f z)) Ret := fun s I F N σ e d Q q =>
  h s I F N σ e d _ (R.sat_imp (sat_mb.mp q) fun z s1 q vs I1 N1 a1 d1 e1 r1 => by
    show Prom Ret As m (vs ++ []) _ _ _
    rw [List.append_nil]
    exact call_st e1 d1 r1 (hA z) (R.sat_imp q fun x s2 q v H' I' N' a2 e2 r2 => q v H' I' N' (a1.trans a2) (by rw [hΓ s2 s1]; exact e2) r2))
theorem eo_callKS {E : XK} {Ret : RetT ρ} {As : ι → List (Ar S)} {m : ι → Mn S ρ} {gV : List V → List V → List V} {mm : Mn S ζ} {psf qsf : ζ → List PV} {f : ζ → ι} (h : AM tk Γ mm psf) (hg : ∀ z I vs, All2 (fun (p : PV) v => p.r I v) (psf z) vs → All2 (fun (p : PV) v => p.r I v) (qsf z) (gV [] vs)) (hA : ∀ z s, (As (f z)).map (Ar.sl s) = (qsf z).map Sl.im) (hΓ : ∀ s s', Γ s = Γ s') :
    EO (tCallK (Prom Ret As m) gV E tNil tk) Γ (mb mm fun z => m (f z)) Ret := fun s I F N σ e d Q q =>
  h s I F N σ e d _ (R.sat_imp (sat_mb.mp q) fun z s1 q vs I1 N1 a1 d1 e1 r1 => call_st e1 d1 (hg z _ _ r1) (hA z) (R.sat_imp q fun x s2 q v H' I' N' a2 e2 r2 => q v H' I' N' (a1.trans a2) (by rw [hΓ s2 s1]; exact e2) r2))
end

/-! ### statements -/
/-- a statement that goes on, behind it x and the slots by x and the state -/
def RP {S τ : Type} [SH S] (t : TS) (Γ : S → List Sl) (m : Mn S τ) (Γ' : τ → S → List Sl) : Prop := ∀ (s : S) (I F N : Hp) (σ : L2.St), EnvG s I F N σ (Γ s) → Dis N I → ∀ D : Ends,
  (m s).sat (fun x s' => ∀ I' N' σ', Ex I I' → Dis N' I' → EnvG s' I' F N' σ' (Γ' x s') → D.nx σ' (ov N' I')) → t D σ (ov N I)
/-- statements that end in a return -/
def RT {S ρ : Type} [SH S] (Ret : RetT ρ) (t : TS) (Γ : S → List Sl) (m : Mn S ρ) (Γr : S → List Sl) : Prop := ∀ (s : S) (I F N : Hp) (σ : L2.St), EnvG s I F N σ (Γ s) → Dis N I → ∀ D : Ends,
  (m s).sat (fun x s' => ∀ v H' I' N' σ', Ex I I' → EnvG s' I' F N' σ' (Γr s') → Ret x v I' N' H' → D.rt v H') → t D σ (ov N I)
/-- .. or at the def's end -/
def RN {S ρ : Type} [SH S] (Ret : RetT ρ) (t : TS) (Γ : S → List Sl) (m : Mn S ρ) (Γr : S → List Sl) : Prop := ∀ (s : S) (I F N : Hp) (σ : L2.St), EnvG s I F N σ (Γ s) → Dis N I → ∀ D : Ends, (∀ σ H, D.rt .non H → D.nx σ H) →
  (m s).sat (fun x s' => ∀ v H' I' N' σ', Ex I I' → EnvG s' I' F N' σ' (Γr s') → Ret x v I' N' H' → D.rt v H') → t D σ (ov N I)
/-- ways out of a statement -/
inductive Ct (ρ τ β : Type) where
  | rt (x : ρ)
  | nx (t : τ)
  | br (b : β)
def CtQ {S ρ τ β : Type} [SH S] (Ret : RetT ρ) (D : Ends) (F : Hp) (Γr : S → List Sl) (Γn : τ → S → List Sl) (Γb : β → S → List Sl) (I : Hp) (c : Ct ρ τ β) (s' : S) : Prop :=
  match c with
    | .rt x => ∀ v H' I' N' σ', Ex I I' → EnvG s' I' F N' σ' (Γr s') → Ret x v I' N' H' → D.rt v H'
    | .nx x => ∀ I' N' σ', Ex I I' → Dis N' I' → EnvG s' I' F N' σ' (Γn x s') → D.nx σ' (ov N' I')
    | .br x => ∀ I' N' σ', Ex I I' → Dis N' I' → EnvG s' I' F N' σ' (Γb x s') → D.bk σ' (ov N' I')
def CxQ {S ρ τ β : Type} [SH S] (Ret : RetT ρ) (D : Ends) (F : Hp) (Γr : S → List Sl) (Γb : β → S → List Sl) (I : Hp) (c : Ct ρ τ β) (s' : S) : Prop :=
  match c with
    | .rt x => ∀ v H' I' N' σ', Ex I I' → EnvG s' I' F N' σ' (Γr s') → Ret x v I' N' H' → D.rt v H'
    | .nx x => True
    | .br x => ∀ I' N' σ', Ex I I' → Dis N' I' → EnvG s' I' F N' σ' (Γb x s') → D.bk σ' (ov N' I')
def RC {S ρ τ β : Type} [SH S] (Ret : RetT ρ) (t : TS) (Γ : S → List Sl) (m : Mn S (Ct ρ τ β)) (Γr : S → List Sl) (Γn : τ → S → List Sl) (Γb : β → S → List Sl) : Prop := ∀ (s : S) (I F N : Hp) (σ : L2.St), EnvG s I F N σ (Γ s) → Dis N I → ∀ D : Ends,
  (m s).sat (CtQ Ret D F Γr Γn Γb I) → t D σ (ov N I)
/-- .. that doesn't go on behind itself -/
def RX {S ρ τ β : Type} [SH S] (Ret : RetT ρ) (t : TS) (Γ : S → List Sl) (m : Mn S (Ct ρ τ β)) (Γr : S → List Sl) (Γb : β → S → List Sl) : Prop := ∀ (s : S) (I F N : Hp) (σ : L2.St), EnvG s I F N σ (Γ s) → Dis N I → ∀ D : Ends,
  (m s).sat (CxQ Ret D F Γr Γb I) → t D σ (ov N I)
section
variable {S ρ τ τ' β α : Type} [SH S] {Ret : RetT ρ} [Rp α] {t t1 t2 : TS} {te : TE} {tc : TT} {Γ Γr Γ1 : S → List Sl} {Γ' Γ2 : τ → S → List Sl} {Γt : τ' → S → List Sl}
theorem rn_of {m : Mn S ρ} (h : RT Ret t Γ m Γr) : RN Ret t Γ m Γr := fun s I F N σ e d D _ q => h s I F N σ e d D q
/-- forgetting ahead -/
theorem rp_pre {m : Mn S τ} (w : ∀ s, Wk (Γ s) (Γ1 s)) (h : RP t Γ1 m Γ') : RP t Γ m Γ' := fun s I F N σ e d D q => by
  obtain ⟨I1, N1, x1, x2, x3, x4⟩ := e.wk (w s) d
  rw [← x3]
  exact h s I1 F N1 σ x4 x2 D (R.sat_imp q fun x s' q I' N' σ' a1 d1 e1 => q I' N' σ' (x1.trans a1) d1 e1)
theorem rt_pre {m : Mn S ρ} (w : ∀ s, Wk (Γ s) (Γ1 s)) (h : RT Ret t Γ1 m Γr) : RT Ret t Γ m Γr := fun s I F N σ e d D q => by
  obtain ⟨I1, N1, x1, x2, x3, x4⟩ := e.wk (w s) d
  rw [← x3]
  exact h s I1 F N1 σ x4 x2 D (R.sat_imp q fun x s' q v H' I' N' σ' a1 e1 r1 => q v H' I' N' σ' (x1.trans a1) e1 r1)
theorem rn_pre {m : Mn S ρ} (w : ∀ s, Wk (Γ s) (Γ1 s)) (h : RN Ret t Γ1 m Γr) : RN Ret t Γ m Γr := fun s I F N σ e d D hn q => by
  obtain ⟨I1, N1, x1, x2, x3, x4⟩ := e.wk (w s) d
  rw [← x3]
  exact h s I1 F N1 σ x4 x2 D hn (R.sat_imp q fun x s' q v H' I' N' σ' a1 e1 r1 => q v H' I' N' σ' (x1.trans a1) e1 r1)
/-- forgetting behind -/
theorem rp_post {m : Mn S τ} {f : τ → τ'} (h : RP t Γ m Γ') (w : ∀ x s, Wk (Γ' x s) (Γt (f x) s)) : RP t Γ (mb m fun x => mp (f x)) Γt := fun s I F N σ e d D q =>
  h s I F N σ e d D (R.sat_imp (sat_mb.mp q) fun x s' q I' N' σ' a1 d1 e1 => by
    obtain ⟨I1, N1, x1, x2, x3, x4⟩ := e1.wk (w x s') d1
    rw [← x3]
    exact q I1 N1 σ' (a1.trans x1) x2 x4)
theorem rp_next {x : τ} (w : ∀ s, Wk (Γ s) (Γ' x s)) : RP tNext Γ (mp x) Γ' := fun s I F N σ e d D q => by
  obtain ⟨I1, N1, x1, x2, x3, x4⟩ := e.wk (w s) d
  show D.nx σ (ov N I)
  rw [← x3]
  exact q I1 N1 σ x1 x2 x4
theorem rp_never : RP (τ := τ) tNever Γ mbad Γ' := fun s I F N σ e d D q => q
theorem rt_never : RT Ret tNever Γ (mbad : Mn S ρ) Γr := fun s I F N σ e d D q => q
theorem rc_never {Γb : β → S → List Sl} : RC Ret (ρ := ρ) (τ := τ) (β := β) tNever Γ mbad Γr Γ' Γb := fun s I F N σ e d D q => q
theorem rx_never {Γb : β → S → List Sl} : RX Ret (ρ := ρ) (τ := τ) (β := β) tNever Γ mbad Γr Γb := fun s I F N σ e d D q => q
theorem rt_ret {m : Mn S α} (h : EM K te Γ m) (w : ∀ s, Wk (Γ s) (Γr s)) : RT (rIm K) (tRet te) Γ m Γr := fun s I F N σ e d D q =>
  h s I F N σ e d _ (R.sat_imp q fun x s' q v I' N' a1 d1 e1 r1 => by
    obtain ⟨I1, N1, x1, x2, x3, x4⟩ := e1.wk (w s') d1
    exact q v _ I1 N1 σ (a1.trans x1) x4 ⟨x2, x3.symm, Rp.up x1 r1⟩)
/-- something owned is handed on -/
theorem rt_reto {m : Mn S ρ} {P : ρ → OP} (h : EO te Γ m (rOw P)) (w : ∀ s, Wk (Γ s) (Γr s)) : RT (rOw P) (tRet te) Γ m Γr := fun s I F N σ e d D q =>
  h s I F N σ e d _ (R.sat_imp q fun x s' q v H' I' N' a1 e1 ⟨a, Ma, h1, h2, h3, h4, h5⟩ => by
    obtain ⟨y1, y2⟩ := dis_ov_l h3
    obtain ⟨I1, N1, x1, x2, x3, x4⟩ := e1.wk (w s') y2
    have z := dis_ov_r h2 y1
    rw [← x3] at z
    obtain ⟨z1, z2⟩ := dis_r_ov z
    refine q v H' I1 N1 σ (a1.trans x1) x4 ⟨a, Ma, h1, z1, dis_ov z2 x2, ?_, (P x).up x1 h5⟩
    rw [h4, ← ov_assoc, ← ov_assoc, x3])
/-- what a slot owns is handed on -/
theorem rt_retv {i : Nat} {P : S → OP} {f : S → ρ} {Pρ : ρ → OP} (hi : ∀ s, (Γ s)[i]? = some (.ow (P s))) (hP : ∀ s I a Ma, (P s).r I a Ma → (Pρ (f s)).r I a Ma) (w : ∀ s, Wk ((Γ s).set i .no) (Γr s)) : RT (rOw Pρ) (tRet (tVar i)) Γ (mg f) Γr := fun s I F N σ e d D q => by
  obtain ⟨a, Ma, M', h1, h2, h3, h4, h5, h6, h7⟩ := e.foc (hi s)
  subst h4
  refine ⟨_, h1, ?_⟩
  obtain ⟨y1, y2⟩ := dis_ov_l d
  obtain ⟨I1, N1, x1, x2, x3, x4⟩ := (h7 I (Ex.refl I)).wk (w s) y2
  have z := dis_ov_r h3 y1
  rw [← x3] at z
  obtain ⟨z1, z2⟩ := dis_r_ov z
  refine q _ _ I1 N1 σ x1 x4 ⟨a, Ma, rfl, z1, dis_ov z2 x2, ?_, (Pρ (f s)).up x1 (hP s _ _ _ h2)⟩
  rw [← ov_assoc, ← ov_assoc, x3]
theorem rt_retN (w : ∀ s, Wk (Γ s) (Γr s)) : RT (rIm K) tRetN Γ (mp ()) Γr := fun s I F N σ e d D q => by
  obtain ⟨I1, N1, x1, x2, x3, x4⟩ := e.wk (w s) d
  exact q _ _ I1 N1 σ x1 x4 ⟨x2, x3.symm, rfl⟩
theorem rc_ret {Γb : β → S → List Sl} {m : Mn S ρ} (h : RT Ret t Γ m Γr) : RC Ret (τ := τ) (β := β) t Γ (mb m fun x => mp (.rt x)) Γr Γ' Γb := fun s I F N σ e d D q => h s I F N σ e d D (sat_mb.mp q)
theorem rx_ret {Γb : β → S → List Sl} {m : Mn S ρ} (h : RT Ret t Γ m Γr) : RX Ret (τ := τ) (β := β) t Γ (mb m fun x => mp (.rt x)) Γr Γb := fun s I F N σ e d D q => h s I F N σ e d D (sat_mb.mp q)
theorem rx_brk {Γb : β → S → List Sl} {b : β} (w : ∀ s, Wk (Γ s) (Γb b s)) : RX Ret (ρ := ρ) (τ := τ) tBreak Γ (mp (.br b)) Γr Γb := fun s I F N σ e d D q => by
  obtain ⟨I1, N1, x1, x2, x3, x4⟩ := e.wk (w s) d
  show D.bk σ (ov N I)
  rw [← x3]
  exact q I1 N1 σ x1 x2 x4
theorem rc_of_x {Γb : β → S → List Sl} {m : Mn S (Ct ρ τ β)} (h : RX Ret t Γ m Γr Γb) : RC Ret t Γ m Γr Γ' Γb := fun s I F N σ e d D q => h s I F N σ e d D (R.sat_imp q fun c s' q => by
  cases c with
  | rt x => exact q
  | nx x => trivial
  | br x => exact q)
theorem rc_of_p {Γb : β → S → List Sl} {m : Mn S τ} (h : RP t Γ m Γ') : RC Ret (ρ := ρ) t Γ (mb m fun x => mp (.nx x)) Γr Γ' Γb := fun s I F N σ e d D q => h s I F N σ e d D (sat_mb.mp q)
/-! statements in a row -/
theorem rp_seq {m1 : Mn S τ'} {m2 : τ' → Mn S τ} (h1 : RP t1 Γ m1 Γt) (h2 : ∀ x, RP t2 (Γt x) (m2 x) Γ') : RP (tSeq t1 t2) Γ (mb m1 m2) Γ' := fun s I F N σ e d D q =>
  h1 s I F N σ e d _ (R.sat_imp (sat_mb.mp q) fun x s1 q I1 N1 σ1 a1 d1 e1 => h2 x s1 I1 F N1 σ1 e1 d1 D (R.sat_imp q fun y s2 q I2 N2 σ2 a2 d2 e2 => q I2 N2 σ2 (a1.trans a2) d2 e2))
theorem rt_seq {m1 : Mn S τ'} {m2 : τ' → Mn S ρ} (h1 : RP t1 Γ m1 Γt) (h2 : ∀ x, RT Ret t2 (Γt x) (m2 x) Γr) : RT Ret (tSeq t1 t2) Γ (mb m1 m2) Γr := fun s I F N σ e d D q =>
  h1 s I F N σ e d _ (R.sat_imp (sat_mb.mp q) fun x s1 q I1 N1 σ1 a1 d1 e1 => h2 x s1 I1 F N1 σ1 e1 d1 D (R.sat_imp q fun y s2 q v H2 I2 N2 σ2 a2 e2 r2 => q v H2 I2 N2 σ2 (a1.trans a2) e2 r2))
theorem rn_seq {m1 : Mn S τ'} {m2 : τ' → Mn S ρ} (h1 : RP t1 Γ m1 Γt) (h2 : ∀ x, RN Ret t2 (Γt x) (m2 x) Γr) : RN Ret (tSeq t1 t2) Γ (mb m1 m2) Γr := fun s I F N σ e d D hn q =>
  h1 s I F N σ e d _ (R.sat_imp (sat_mb.mp q) fun x s1 q I1 N1 σ1 a1 d1 e1 => h2 x s1 I1 F N1 σ1 e1 d1 D hn (R.sat_imp q fun y s2 q v H2 I2 N2 σ2 a2 e2 r2 => q v H2 I2 N2 σ2 (a1.trans a2) e2 r2))
theorem rn_last {m : Mn S τ} (h : RP t Γ m Γ') (w : ∀ x s, Wk (Γ' x s) (Γr s)) : RN (rIm K) t Γ (mb m fun _ => mp ()) Γr := fun s I F N σ e d D hn q =>
  h s I F N σ e d _ (R.sat_imp (sat_mb.mp q) fun x s1 q I1 N1 σ1 a1 d1 e1 => by
    obtain ⟨I2, N2, x1, x2, x3, x4⟩ := e1.wk (w x s1) d1
    exact hn σ1 _ (q _ _ I2 N2 σ1 (a1.trans x1) x4 ⟨x2, x3.symm, rfl⟩))
theorem rn_next (w : ∀ s, Wk (Γ s) (Γr s)) : RN (rIm K) tNext Γ (mp ()) Γr := fun s I F N σ e d D hn q => by
  obtain ⟨I2, N2, x1, x2, x3, x4⟩ := e.wk (w s) d
  exact hn σ _ (q _ _ I2 N2 σ x1 x4 ⟨x2, x3.symm, rfl⟩)
theorem rc_seqP {Γb : β → S → List Sl} {m1 : Mn S τ'} {m2 : τ' → Mn S (Ct ρ τ β)} (h1 : RP t1 Γ m1 Γt) (h2 : ∀ x, RC Ret t2 (Γt x) (m2 x) Γr Γ' Γb) : RC Ret (tSeq t1 t2) Γ (mb m1 m2) Γr Γ' Γb := fun s I F N σ e d D q =>
  h1 s I F N σ e d _ (R.sat_imp (sat_mb.mp q) fun x s1 q I1 N1 σ1 a1 d1 e1 => h2 x s1 I1 F N1 σ1 e1 d1 D (R.sat_imp q fun c s2 q => by
    cases c with
    | rt x => exact fun v H2 I2 N2 σ2 a2 e2 r2 => q v H2 I2 N2 σ2 (a1.trans a2) e2 r2
    | nx x => exact fun I2 N2 σ2 a2 d2 e2 => q I2 N2 σ2 (a1.trans a2) d2 e2
    | br x => exact fun I2 N2 σ2 a2 d2 e2 => q I2 N2 σ2 (a1.trans a2) d2 e2))
theorem rx_seqP {Γb : β → S → List Sl} {m1 : Mn S τ'} {m2 : τ' → Mn S (Ct ρ τ β)} (h1 : RP t1 Γ m1 Γt) (h2 : ∀ x, RX Ret t2 (Γt x) (m2 x) Γr Γb) : RX Ret (tSeq t1 t2) Γ (mb m1 m2) Γr Γb := fun s I F N σ e d D q =>
  h1 s I F N σ e d _ (R.sat_imp (sat_mb.mp q) fun x s1 q I1 N1 σ1 a1 d1 e1 => h2 x s1 I1 F N1 σ1 e1 d1 D (R.sat_imp q fun c s2 q => by
    cases c with
    | rt x => exact fun v H2 I2 N2 σ2 a2 e2 r2 => q v H2 I2 N2 σ2 (a1.trans a2) e2 r2
    | nx x => trivial
    | br x => exact fun I2 N2 σ2 a2 d2 e2 => q I2 N2 σ2 (a1.trans a2) d2 e2))
/-- what follows a statement with ways out -/
def ctk {S ρ τ β : Type} (k : τ → Mn S ρ) (j : β → Mn S ρ) : Ct ρ τ β → Mn S ρ
  | .rt x => mp x
  | .nx x => k x
  | .br x => j x
def ctc {S ρ τ τ' β : Type} (k : τ' → Mn S (Ct ρ τ β)) : Ct ρ τ' β → Mn S (Ct ρ τ β)
  | .rt x => mp (.rt x)
  | .nx x => k x
  | .br x => mp (.br x)
theorem rt_seqC {Γb : β → S → List Sl} {m1 : Mn S (Ct ρ τ' β)} {m2 : τ' → Mn S ρ} (h1 : RC Ret t1 Γ m1 Γr Γt Γb) (h2 : ∀ x, RT Ret t2 (Γt x) (m2 x) Γr) : RT Ret (tSeq t1 t2) Γ (mb m1 (ctk m2 fun _ => mbad)) Γr := fun s I F N σ e d D q =>
  h1 s I F N σ e d _ (R.sat_imp (sat_mb.mp q) fun c s1 q => by
    cases c with
    | rt x => exact q
    | nx x => exact fun I1 N1 σ1 a1 d1 e1 => h2 x s1 I1 F N1 σ1 e1 d1 D (R.sat_imp q fun y s2 q v H2 I2 N2 σ2 a2 e2 r2 => q v H2 I2 N2 σ2 (a1.trans a2) e2 r2)
    | br x => exact q.elim)
theorem rn_seqC {Γb : β → S → List Sl} {m1 : Mn S (Ct ρ τ' β)} {m2 : τ' → Mn S ρ} (h1 : RC Ret t1 Γ m1 Γr Γt Γb) (h2 : ∀ x, RN Ret t2 (Γt x) (m2 x) Γr) : RN Ret (tSeq t1 t2) Γ (mb m1 (ctk m2 fun _ => mbad)) Γr := fun s I F N σ e d D hn q =>
  h1 s I F N σ e d _ (R.sat_imp (sat_mb.mp q) fun c s1 q => by
    cases c with
    | rt x => exact q
    | nx x => exact fun I1 N1 σ1 a1 d1 e1 => h2 x s1 I1 F N1 σ1 e1 d1 D hn (R.sat_imp q fun y s2 q v H2 I2 N2 σ2 a2 e2 r2 => q v H2 I2 N2 σ2 (a1.trans a2) e2 r2)
    | br x => exact q.elim)
theorem rc_seq {Γb : β → S → List Sl} {m1 : Mn S (Ct ρ τ' β)} {m2 : τ' → Mn S (Ct ρ τ β)} (h1 : RC Ret t1 Γ m1 Γr Γt Γb) (h2 : ∀ x, RC Ret t2 (Γt x) (m2 x) Γr Γ' Γb) : RC Ret (tSeq t1 t2) Γ (mb m1 (ctc m2)) Γr Γ' Γb := fun s I F N σ e d D q =>
  h1 s I F N σ e d _ (R.sat_imp (sat_mb.mp q) fun c s1 q => by
    cases c with
    | rt x => exact q
    | nx x => exact fun I1 N1 σ1 a1 d1 e1 => h2 x s1 I1 F N1 σ1 e1 d1 D (R.sat_imp q fun c s2 q => by
        cases c with
        | rt x => exact fun v H2 I2 N2 σ2 a2 e2 r2 => q v H2 I2 N2 σ2 (a1.trans a2) e2 r2
        | nx x => exact fun I2 N2 σ2 a2 d2 e2 => q I2 N2 σ2 (a1.trans a2) d2 e2
        | br x => exact fun I2 N2 σ2 a2 d2 e2 => q I2 N2 σ2 (a1.trans a2) d2 e2)
    | br x => exact q)
/-! if -/
theorem ifS {mc : Mn S Bool} {α : Type} {m1 m2 : Mn S α} {G : Mn S α → TS → Prop} (hc : TM tc Γ mc) {s : S} {I F N : Hp} {σ : L2.St} {D : Ends} (e : EnvG s I F N σ (Γ s)) (d : Dis N I) {Q : α → S → Prop} (q : (mb mc (fun b => mi b m1 m2) s).sat Q)
    (h1 : ∀ s1 I1 N1, Ex I I1 → Dis N1 I1 → EnvG s1 I1 F N1 σ (Γ s1) → (m1 s1).sat Q → t1 D σ (ov N1 I1)) (h2 : ∀ s1 I1 N1, Ex I I1 → Dis N1 I1 → EnvG s1 I1 F N1 σ (Γ s1) → (m2 s1).sat Q → t2 D σ (ov N1 I1)) : tIfS tc t1 t2 D σ (ov N I) :=
  hc s I F N σ e d _ (R.sat_imp (sat_mb.mp q) fun b s1 q I1 N1 a1 d1 e1 => by
    cases b with
    | true => exact h1 s1 I1 N1 a1 d1 e1 q
    | false => exact h2 s1 I1 N1 a1 d1 e1 q)
theorem rp_if {mc : Mn S Bool} {m1 m2 : Mn S τ} (hc : TM tc Γ mc) (h1 : RP t1 Γ m1 Γ') (h2 : RP t2 Γ m2 Γ') : RP (tIfS tc t1 t2) Γ (mb mc fun b => mi b m1 m2) Γ' := fun s I F N σ e d D q =>
  ifS (G := fun _ _ => True) hc e d q (fun s1 I1 N1 a1 d1 e1 q => h1 s1 I1 F N1 σ e1 d1 D (R.sat_imp q fun y s2 q I2 N2 σ2 a2 d2 e2 => q I2 N2 σ2 (a1.trans a2) d2 e2)) (fun s1 I1 N1 a1 d1 e1 q => h2 s1 I1 F N1 σ e1 d1 D (R.sat_imp q fun y s2 q I2 N2 σ2 a2 d2 e2 => q I2 N2 σ2 (a1.trans a2) d2 e2))
theorem rt_if {mc : Mn S Bool} {m1 m2 : Mn S ρ} (hc : TM tc Γ mc) (h1 : RT Ret t1 Γ m1 Γr) (h2 : RT Ret t2 Γ m2 Γr) : RT Ret (tIfS tc t1 t2) Γ (mb mc fun b => mi b m1 m2) Γr := fun s I F N σ e d D q =>
  ifS (G := fun _ _ => True) hc e d q (fun s1 I1 N1 a1 d1 e1 q => h1 s1 I1 F N1 σ e1 d1 D (R.sat_imp q fun y s2 q v H2 I2 N2 σ2 a2 e2 r2 => q v H2 I2 N2 σ2 (a1.trans a2) e2 r2)) (fun s1 I1 N1 a1 d1 e1 q => h2 s1 I1 F N1 σ e1 d1 D (R.sat_imp q fun y s2 q v H2 I2 N2 σ2 a2 e2 r2 => q v H2 I2 N2 σ2 (a1.trans a2) e2 r2))
theorem rn_if {mc : Mn S Bool} {m1 m2 : Mn S ρ} (hc : TM tc Γ mc) (h1 : RN Ret t1 Γ m1 Γr) (h2 : RN Ret t2 Γ m2 Γr) : RN Ret (tIfS tc t1 t2) Γ (mb mc fun b => mi b m1 m2) Γr := fun s I F N σ e d D hn q =>
  ifS (G := fun _ _ => True) hc e d q (fun s1 I1 N1 a1 d1 e1 q => h1 s1 I1 F N1 σ e1 d1 D hn (R.sat_imp q fun y s2 q v H2 I2 N2 σ2 a2 e2 r2 => q v H2 I2 N2 σ2 (a1.trans a2) e2 r2)) (fun s1 I1 N1 a1 d1 e1 q => h2 s1 I1 F N1 σ e1 d1 D hn (R.sat_imp q fun y s2 q v H2 I2 N2 σ2 a2 e2 r2 => q v H2 I2 N2 σ2 (a1.trans a2) e2 r2))
/-- if c: .. that returns; the rest -/
theorem rt_ifr {mc : Mn S Bool} {m1 m2 : Mn S ρ} (hc : TM tc Γ mc) (h1 : RT Ret t1 Γ m1 Γr) (h2 : RT Ret t2 Γ m2 Γr) : RT Ret (tSeq (tIfS tc t1 tNext) t2) Γ (mb mc fun b => mi b m1 m2) Γr := fun s I F N σ e d D q =>
  ifS (t2 := tNext) (D := { D with nx := t2 D }) (G := fun _ _ => True) hc e d q (fun s1 I1 N1 a1 d1 e1 q => h1 s1 I1 F N1 σ e1 d1 _ (R.sat_imp q fun y s2 q v H2 I2 N2 σ2 a2 e2 r2 => q v H2 I2 N2 σ2 (a1.trans a2) e2 r2)) (fun s1 I1 N1 a1 d1 e1 q => h2 s1 I1 F N1 σ e1 d1 D (R.sat_imp q fun y s2 q v H2 I2 N2 σ2 a2 e2 r2 => q v H2 I2 N2 σ2 (a1.trans a2) e2 r2))
theorem rn_ifr {mc : Mn S Bool} {m1 m2 : Mn S ρ} (hc : TM tc Γ mc) (h1 : RT Ret t1 Γ m1 Γr) (h2 : RN Ret t2 Γ m2 Γr) : RN Ret (tSeq (tIfS tc t1 tNext) t2) Γ (mb mc fun b => mi b m1 m2) Γr := fun s I F N σ e d D hn q =>
  ifS (t2 := tNext) (D := { D with nx := t2 D }) (G := fun _ _ => True) hc e d q (fun s1 I1 N1 a1 d1 e1 q => h1 s1 I1 F N1 σ e1 d1 _ (R.sat_imp q fun y s2 q v H2 I2 N2 σ2 a2 e2 r2 => q v H2 I2 N2 σ2 (a1.trans a2) e2 r2)) (fun s1 I1 N1 a1 d1 e1 q => h2 s1 I1 F N1 σ e1 d1 D hn (R.sat_imp q fun y s2 q v H2 I2 N2 σ2 a2 e2 r2 => q v H2 I2 N2 σ2 (a1.trans a2) e2 r2))
theorem ctup {S : Type} [SH S] {D : Ends} {Γr : S → List Sl} {F : Hp} {Γ' : τ → S → List Sl} {Γb : β → S → List Sl} {I I1 : Hp} (a1 : Ex I I1) {c : Ct ρ τ β} {s' : S} (q : CtQ Ret D F Γr Γ' Γb I c s') : CtQ Ret D F Γr Γ' Γb I1 c s' := by
  cases c with
  | rt x => exact fun v H2 I2 N2 σ2 a2 e2 r2 => q v H2 I2 N2 σ2 (a1.trans a2) e2 r2
  | nx x => exact fun I2 N2 σ2 a2 d2 e2 => q I2 N2 σ2 (a1.trans a2) d2 e2
  | br x => exact fun I2 N2 σ2 a2 d2 e2 => q I2 N2 σ2 (a1.trans a2) d2 e2
theorem rc_if {Γb : β → S → List Sl} {mc : Mn S Bool} {m1 m2 : Mn S (Ct ρ τ β)} (hc : TM tc Γ mc) (h1 : RC Ret t1 Γ m1 Γr Γ' Γb) (h2 : RC Ret t2 Γ m2 Γr Γ' Γb) : RC Ret (tIfS tc t1 t2) Γ (mb mc fun b => mi b m1 m2) Γr Γ' Γb := fun s I F N σ e d D q =>
  ifS (G := fun _ _ => True) hc e d q (fun s1 I1 N1 a1 d1 e1 q => h1 s1 I1 F N1 σ e1 d1 D (R.sat_imp q fun c s2 q => ctup a1 q)) (fun s1 I1 N1 a1 d1 e1 q => h2 s1 I1 F N1 σ e1 d1 D (R.sat_imp q fun c s2 q => ctup a1 q))
theorem rx_if {Γb : β → S → List Sl} {mc : Mn S Bool} {m1 m2 : Mn S (Ct ρ τ β)} (hc : TM tc Γ mc) (h1 : RX Ret t1 Γ m1 Γr Γb) (h2 : RX Ret t2 Γ m2 Γr Γb) : RX Ret (tIfS tc t1 t2) Γ (mb mc fun b => mi b m1 m2) Γr Γb := fun s I F N σ e d D q =>
  ifS (G := fun _ _ => True) hc e d q (fun s1 I1 N1 a1 d1 e1 q => h1 s1 I1 F N1 σ e1 d1 D (R.sat_imp q fun c s2 q => by
      cases c with
      | rt x => exact fun v H2 I2 N2 σ2 a2 e2 r2 => q v H2 I2 N2 σ2 (a1.trans a2) e2 r2
      | nx x => trivial
      | br x => exact fun I2 N2 σ2 a2 d2 e2 => q I2 N2 σ2 (a1.trans a2) d2 e2))
    (fun s1 I1 N1 a1 d1 e1 q => h2 s1 I1 F N1 σ e1 d1 D (R.sat_imp q fun c s2 q => by
      cases c with
      | rt x => exact fun v H2 I2 N2 σ2 a2 e2 r2 => q v H2 I2 N2 σ2 (a1.trans a2) e2 r2
      | nx x => trivial
      | br x => exact fun I2 N2 σ2 a2 d2 e2 => q I2 N2 σ2 (a1.trans a2) d2 e2))
theorem rc_ifr {Γb : β → S → List Sl} {mc : Mn S Bool} {m1 m2 : Mn S (Ct ρ τ β)} (hc : TM tc Γ mc) (h1 : RX Ret t1 Γ m1 Γr Γb) (h2 : RC Ret t2 Γ m2 Γr Γ' Γb) : RC Ret (tSeq (tIfS tc t1 tNext) t2) Γ (mb mc fun b => mi b m1 m2) Γr Γ' Γb := fun s I F N σ e d D q =>
  ifS (t2 := tNext) (D := { D with nx := t2 D }) (G := fun _ _ => True) hc e d q (fun s1 I1 N1 a1 d1 e1 q => h1 s1 I1 F N1 σ e1 d1 _ (R.sat_imp q fun c s2 q => by
      cases c with
      | rt x => exact fun v H2 I2 N2 σ2 a2 e2 r2 => q v H2 I2 N2 σ2 (a1.trans a2) e2 r2
      | nx x => trivial
      | br x => exact fun I2 N2 σ2 a2 d2 e2 => q I2 N2 σ2 (a1.trans a2) d2 e2))
    (fun s1 I1 N1 a1 d1 e1 q => h2 s1 I1 F N1 σ e1 d1 D (R.sat_imp q fun c s2 q => ctup a1 q))
/-! assignments -/
theorem rp_asg {i : Nat} {m : Mn S α} {Γ' : α → S → List Sl} (h : EM K te Γ m) (hn : ∀ s, NotOw (Γ s) i) (hΓ : ∀ x s, (Γ s).set i (.im (pv K x)) = Γ' x s) : RP (tAsg te (gName i)) Γ m Γ' := fun s I F N σ e d D q =>
  h s I F N σ e d _ (R.sat_imp q fun x s' q v I' N' a1 d1 e1 r1 => q I' N' _ a1 d1 (by rw [← hΓ]; exact e1.set r1 (hn s')))
theorem rp_drop {m : Mn S α} (h : EM K te Γ m) : RP (tDrop te) Γ m (fun _ => Γ) := fun s I F N σ e d D q =>
  h s I F N σ e d _ (R.sat_imp q fun x s' q v I' N' a1 d1 e1 r1 => q I' N' σ a1 d1 e1)
end
end
end Mir

/-! Mir5: what is walked; loops; comprehensions; a def's body and its promise -/
namespace Mir
open PySem L2
section
variable {K : PySem.W.Frag}
/-! ### what is walked -/
def ItOk (K : PySem.W.Frag) {α : Type} [Rp α] (J : It) (I : Hp) (xs : List α) : Prop := ∀ I1 N1, Ex I I1 → Dis N1 I1 →
  (∀ (i : Nat) (x : α), xs[i]? = some x → J.go i (ov N1 I1) ∧ ∀ v H', J.yld i (ov N1 I1) v H' → ∃ I2, H' = ov N1 I2 ∧ Ex I1 I2 ∧ Dis N1 I2 ∧ Rp.r K x I2 v) ∧ J.stop xs.length (ov N1 I1)
def IM (K : PySem.W.Frag) {S α : Type} [SH S] [Rp α] (wi : TI) (Γ : S → List Sl) (m : Mn S (List α)) : Prop := ∀ (s : S) (I F N : Hp) (σ : L2.St), EnvG s I F N σ (Γ s) → Dis N I → ∀ Rr : It → Hp → Prop,
  (m s).sat (fun xs s' => ∀ J I' N', Ex I I' → Dis N' I' → EnvG s' I' F N' σ (Γ s') → ItOk K J I' xs → Rr J (ov N' I')) → wi σ (ov N I) Rr
section
variable {S α β γ : Type} [SH S] [Rp α] [Rp β] {Γ : S → List Sl} {te : TE} {ta : TA}
theorem it_list {a : Addr} {xs : List α} {vs : List V} {I : Hp} (h : SqL K I a vs) (r : Rs K xs I vs) : ItOk K (Itl K a) I xs := fun I1 N1 a1 d1 => by
  have h1 : SqL K (ov N1 I1) a vs := sql_up (a1.trans (ex_ov d1)) h
  refine ⟨fun i x hx => ?_, ⟨vs, h1, by rw [r.length]; exact Nat.le_refl _⟩⟩
  obtain ⟨v, e1, e2⟩ := r.get hx
  refine ⟨⟨vs, v, h1, e1⟩, fun u H' ⟨y1, y2⟩ => ?_⟩
  have e3 := y2 vs h1
  rw [e1] at e3
  cases e3
  exact ⟨I1, y1, Ex.refl I1, d1, Rp.up a1 e2⟩
theorem it_tup {a : Addr} {xs : List α} {vs : List V} {I : Hp} (h : SqT K I a vs) (r : Rs K xs I vs) : ItOk K (Itt K a) I xs := fun I1 N1 a1 d1 => by
  have h1 : SqT K (ov N1 I1) a vs := sqt_up (a1.trans (ex_ov d1)) h
  refine ⟨fun i x hx => ?_, ⟨vs, h1, by rw [r.length]; exact Nat.le_refl _⟩⟩
  obtain ⟨v, e1, e2⟩ := r.get hx
  refine ⟨⟨vs, v, h1, e1⟩, fun u H' ⟨y1, y2⟩ => ?_⟩
  have e3 := y2 vs h1
  rw [e1] at e3
  cases e3
  exact ⟨I1, y1, Ex.refl I1, d1, Rp.up a1 e2⟩
/-- lo, lo + 1, .. -/
def rng (lo : Int) (n : Nat) : List Int := (List.range n).map fun i => lo + (i : Nat)
theorem rng_len {lo : Int} {n : Nat} : (rng lo n).length = n := by unfold rng; rw [List.length_map, List.length_range]
theorem rng_get {lo : Int} {n i : Nat} {x : Int} (h : (rng lo n)[i]? = some x) : i < n ∧ x = lo + (i : Nat) := by
  have hi : i < n := by
    have := (List.getElem?_eq_some_iff.mp h).1
    rw [rng_len] at this
    exact this
  unfold rng at h
  rw [List.getElem?_map, List.getElem?_range hi] at h
  exact ⟨hi, (Option.some.inj h).symm⟩
theorem it_rng {lo : Int} {n : Nat} {I : Hp} : ItOk K (Itr lo n) I (rng lo n) := fun I1 N1 a1 d1 => by
  refine ⟨fun i x hx => ?_, by rw [rng_len]; exact Nat.le_refl _⟩
  obtain ⟨h1, h2⟩ := rng_get hx
  refine ⟨h1, fun u H' ⟨y1, y2⟩ => ⟨I1, y1, Ex.refl I1, d1, ?_⟩⟩
  rw [h2]
  exact y2
theorem im_list {xs : List α} (h : ∀ s, EP te (Γ s) (pv K xs)) : IM K (iList K te) Γ (mp xs) := fun s I F N σ e d Rr q =>
  h s I F N σ e d _ fun v I1 a1 d1 ⟨a, vs, h1, h2, h3⟩ => ⟨a, h1, ⟨vs, SqL.of (ex_ov d1 _ _ h2)⟩, q _ I1 N a1 d1 (e.up a1) (it_list (SqL.of h2) h3)⟩
theorem im_listM {m : Mn S (List α)} (h : EM K te Γ m) : IM K (iList K te) Γ m := fun s I F N σ e d Rr q =>
  h s I F N σ e d _ (R.sat_imp q fun xs s1 q v I1 N1 a1 d1 e1 ⟨a, vs, h1, h2, h3⟩ => ⟨a, h1, ⟨vs, SqL.of (ex_ov d1 _ _ h2)⟩, q _ I1 N1 a1 d1 e1 (it_list (SqL.of h2) h3)⟩)
theorem im_tup {xs : Tu α} (h : ∀ s, EP te (Γ s) (pv K xs)) : IM K (iTup K te) Γ (mp xs.l) := fun s I F N σ e d Rr q =>
  h s I F N σ e d _ fun v I1 a1 d1 ⟨a, vs, h1, h2, h3⟩ => ⟨a, h1, ⟨vs, sqt_ov d1 h2⟩, q _ I1 N a1 d1 (e.up a1) (it_tup h2 h3)⟩
theorem im_tupM {m : Mn S (Tu α)} (h : EM K te Γ m) : IM K (iTup K te) Γ (mb m fun x => mp x.l) := fun s I F N σ e d Rr q =>
  h s I F N σ e d _ (R.sat_imp (sat_mb.mp q) fun xs s1 q v I1 N1 a1 d1 e1 ⟨a, vs, h1, h2, h3⟩ => ⟨a, h1, ⟨vs, sqt_ov d1 h2⟩, q _ I1 N1 a1 d1 e1 (it_tup h2 h3)⟩)
/-- range(n), range(lo, n): bounds within 2 ^ 62 -/
def b62 (i : Int) : Bool := decide (-(2 ^ 62) ≤ i ∧ i < 2 ^ 62)
theorem im_rng1 {n : Int} (h : ∀ s, AP ta (Γ s) [pv K n]) : IM K (iRng1 ta) Γ (mc (b62 n) (rng 0 n.toNat)) := fun s I F N σ e d Rr q => by
  obtain ⟨c, q⟩ := sat_mc.mp q
  have c := of_decide_eq_true c
  refine h s I F N σ e d _ fun vs I1 a1 d1 r1 => ?_
  obtain ⟨v, _, rfl, r, r1⟩ := all2_c r1
  cases all2_n r1
  cases (show v = V.int n from r)
  exact ⟨n, rfl, c.1, c.2, q _ I1 N a1 d1 (e.up a1) it_rng⟩
theorem im_rng1M {ζ : Type} {m : Mn S ζ} {f : ζ → Int} (h : AM ta Γ m fun z => [pv K (f z)]) : IM K (iRng1 ta) Γ (mb m fun z => mc (b62 (f z)) (rng 0 (f z).toNat)) := fun s I F N σ e d Rr q => by
  refine h s I F N σ e d _ (R.sat_imp (sat_mb.mp q) fun z s1 q vs I1 N1 a1 d1 e1 r1 => ?_)
  obtain ⟨c, q⟩ := sat_mc.mp q
  have c := of_decide_eq_true c
  obtain ⟨v, _, rfl, r, r1⟩ := all2_c r1
  cases all2_n r1
  cases (show v = V.int (f z) from r)
  exact ⟨f z, rfl, c.1, c.2, q _ I1 N1 a1 d1 e1 it_rng⟩
theorem im_rng2 {lo n : Int} (h : ∀ s, AP ta (Γ s) [pv K lo, pv K n]) : IM K (iRng2 ta) Γ (mc (b62 lo && b62 n) (rng lo (n - lo).toNat)) := fun s I F N σ e d Rr q => by
  obtain ⟨c, q⟩ := sat_mc.mp q
  obtain ⟨c1, c2⟩ := Bool.and_eq_true_iff.mp c
  have c1 := of_decide_eq_true c1
  have c2 := of_decide_eq_true c2
  refine h s I F N σ e d _ fun vs I1 a1 d1 r1 => ?_
  obtain ⟨v, _, rfl, r, r1⟩ := all2_c r1
  obtain ⟨w, _, rfl, r', r1⟩ := all2_c r1
  cases all2_n r1
  cases (show v = V.int lo from r)
  cases (show w = V.int n from r')
  exact ⟨lo, n, rfl, ⟨c1.1, c1.2, c2.1, c2.2⟩, q _ I1 N a1 d1 (e.up a1) it_rng⟩
theorem im_rng2M {ζ : Type} {m : Mn S ζ} {f g : ζ → Int} (h : AM ta Γ m fun z => [pv K (f z), pv K (g z)]) : IM K (iRng2 ta) Γ (mb m fun z => mc (b62 (f z) && b62 (g z)) (rng (f z) (g z - f z).toNat)) := fun s I F N σ e d Rr q => by
  refine h s I F N σ e d _ (R.sat_imp (sat_mb.mp q) fun z s1 q vs I1 N1 a1 d1 e1 r1 => ?_)
  obtain ⟨c, q⟩ := sat_mc.mp q
  obtain ⟨c1, c2⟩ := Bool.and_eq_true_iff.mp c
  have c1 := of_decide_eq_true c1
  have c2 := of_decide_eq_true c2
  obtain ⟨v, _, rfl, r, r1⟩ := all2_c r1
  obtain ⟨w, _, rfl, r', r1⟩ := all2_c r1
  cases all2_n r1
  cases (show v = V.int (f z) from r)
  cases (show w = V.int (g z) from r')
  exact ⟨f z, g z, rfl, ⟨c1.1, c1.2, c2.1, c2.2⟩, q _ I1 N1 a1 d1 e1 it_rng⟩
end

/-! ### targets -/
/-- the item x is bound; js: the slots -/
def GT (K : PySem.W.Frag) {α : Type} [Rp α] (g : TG) (Γ : List Sl) (x : α) (Γ' : List Sl) (js : List Nat) : Prop := ∀ (I F N : Hp) (σ : L2.St) (v : V), EnvOk I F N σ Γ → Dis N I → Rp.r K x I v → ∀ Q : L2.St → Hp → Prop,
  (∀ σ', EnvOk I F N σ' Γ' → (∀ vs : List Nat, (∀ j ∈ js, j ∈ vs) → wipe σ' vs = wipe σ vs) → Q σ' (ov N I)) → g v σ (ov N I) Q
theorem GT.g {K : PySem.W.Frag} {α : Type} [Rp α] {g : TG} {Γ Γ' : List Sl} {x : α} {js : List Nat} (h : GT K g Γ x Γ' js) {S : Type} [SH S] (s : S) (I F N : Hp) (σ : L2.St) (v : V) (e : EnvG s I F N σ Γ) (d : Dis N I) (r : Rp.r K x I v) (Q : L2.St → Hp → Prop)
    (q : ∀ σ', EnvG s I F N σ' Γ' → (∀ vs : List Nat, (∀ j ∈ js, j ∈ vs) → wipe σ' vs = wipe σ vs) → Q σ' (ov N I)) : g v σ (ov N I) Q := by
  obtain ⟨G, h1, h2, e⟩ := e
  exact h I _ N σ v e d r Q fun σ' e' w => q σ' ⟨G, h1, h2, e'⟩ w
theorem wipe_get {σ : L2.St} {i : Nat} : ∀ vs : List Nat, (wipe σ vs)[i]? = if i ∈ vs then σ[i]?.map fun _ => none else σ[i]?
  | [] => by simp [wipe]
  | v :: vs => by
    unfold wipe
    rw [List.getElem?_set, wipe_get vs, wipe_length]
    by_cases h : v = i
    · subst h
      by_cases hl : v < σ.length
      · simp [hl, List.getElem?_eq_getElem hl]
      · simp [hl, List.getElem?_eq_none (Nat.le_of_not_lt hl)]
    · have h' : ¬ i = v := fun q => h q.symm
      rw [if_neg h]
      simp only [List.mem_cons, h', false_or]
theorem wipe_set {σ : L2.St} {j : Nat} {y : Option V} {vs : List Nat} (h : j ∈ vs) : wipe (σ.set j y) vs = wipe σ vs := by
  refine List.ext_getElem? fun i => ?_
  rw [wipe_get, wipe_get, List.getElem?_set]
  by_cases e : j = i
  · subst e
    by_cases hl : j < σ.length
    · simp [h, hl, List.getElem?_eq_getElem hl]
    · simp [h, hl, List.getElem?_eq_none (Nat.le_of_not_lt hl)]
  · rw [if_neg e]
theorem wipe_wipe {σ : L2.St} {vs : List Nat} : wipe (wipe σ vs) vs = wipe σ vs := by
  refine List.ext_getElem? fun i => ?_
  rw [wipe_get, wipe_get]
  by_cases e : i ∈ vs
  · rw [if_pos e, if_pos e, Option.map_map]
    rfl
  · rw [if_neg e, if_neg e]
section
variable {α β γ δ ε : Type} [Rp α] [Rp β] [Rp γ] [Rp δ] [Rp ε] {Γ Γ' : List Sl} {i j k l : Nat}
theorem gt_name {x : α} (hn : NotOw Γ i) (hΓ : Γ.set i (.im (pv K x)) = Γ') : GT K (gName i) Γ x Γ' [i] := fun I F N σ v e d r Q q => by
  refine q _ ?_ fun vs h => wipe_set (h i (List.mem_cons_self ..))
  rw [← hΓ]
  exact e.set r hn
/-- a name that nobody reads -/
theorem gt_nameNo {x : α} (hn : NotOw Γ i) (hΓ : Γ.set i .no = Γ') : GT K (gName i) Γ x Γ' [i] := fun I F N σ v e d r Q q => by
  refine q _ ?_ fun vs h => wipe_set (h i (List.mem_cons_self ..))
  rw [← hΓ]
  exact e.setNo hn
theorem gt_2 {x : α × β} {Γ1 : List Sl} {g1 g2 : TG} {js ks : List Nat} (h1 : GT K g1 Γ x.1 Γ1 js) (h2 : GT K g2 Γ1 x.2 Γ' ks) : GT K (gTup K 2 (gCons g1 (gCons g2 gNil))) Γ x Γ' (js ++ ks) := fun I F N σ v e d ⟨a, v1, v2, r1, r2, r3, r4⟩ Q q =>
  ⟨a, _, r1, sqt_ov d r2, rfl, v1, _, rfl, h1 I F N σ v1 e d r3 _ fun σ1 e1 w1 => ⟨v2, _, rfl, h2 I F N σ1 v2 e1 d r4 _ fun σ2 e2 w2 => ⟨rfl, q σ2 e2 fun vs h => (w2 vs fun j hj => h j (List.mem_append_right _ hj)).trans (w1 vs fun j hj => h j (List.mem_append_left _ hj))⟩⟩⟩
theorem gt_3 {x : T3 α β γ} {Γ1 Γ2 : List Sl} {g1 g2 g3 : TG} {js ks ls : List Nat} (h1 : GT K g1 Γ x.a Γ1 js) (h2 : GT K g2 Γ1 x.b Γ2 ks) (h3 : GT K g3 Γ2 x.c Γ' ls) : GT K (gTup K 3 (gCons g1 (gCons g2 (gCons g3 gNil)))) Γ x Γ' (js ++ (ks ++ ls)) := fun I F N σ v e d ⟨a, v1, v2, v3, r1, r2, r3, r4, r5⟩ Q q =>
  ⟨a, _, r1, sqt_ov d r2, rfl, v1, _, rfl, h1 I F N σ v1 e d r3 _ fun σ1 e1 w1 => ⟨v2, _, rfl, h2 I F N σ1 v2 e1 d r4 _ fun σ2 e2 w2 => ⟨v3, _, rfl, h3 I F N σ2 v3 e2 d r5 _ fun σ3 e3 w3 => ⟨rfl, q σ3 e3 fun vs h =>
    ((w3 vs fun j hj => h j (List.mem_append_right _ (List.mem_append_right _ hj))).trans (w2 vs fun j hj => h j (List.mem_append_right _ (List.mem_append_left _ hj)))).trans (w1 vs fun j hj => h j (List.mem_append_left _ hj))⟩⟩⟩⟩
theorem gt_4 {x : T4 α β γ δ} {Γ1 Γ2 Γ3 : List Sl} {g1 g2 g3 g4 : TG} {js ks ls ms : List Nat} (h1 : GT K g1 Γ x.a Γ1 js) (h2 : GT K g2 Γ1 x.b Γ2 ks) (h3 : GT K g3 Γ2 x.c Γ3 ls) (h4 : GT K g4 Γ3 x.d Γ' ms) : GT K (gTup K 4 (gCons g1 (gCons g2 (gCons g3 (gCons g4 gNil))))) Γ x Γ' (js ++ (ks ++ (ls ++ ms))) := fun I F N σ v e d ⟨a, v1, v2, v3, v4, r1, r2, r3, r4, r5, r6⟩ Q q =>
  ⟨a, _, r1, sqt_ov d r2, rfl, v1, _, rfl, h1 I F N σ v1 e d r3 _ fun σ1 e1 w1 => ⟨v2, _, rfl, h2 I F N σ1 v2 e1 d r4 _ fun σ2 e2 w2 => ⟨v3, _, rfl, h3 I F N σ2 v3 e2 d r5 _ fun σ3 e3 w3 => ⟨v4, _, rfl, h4 I F N σ3 v4 e3 d r6 _ fun σ4 e4 w4 => ⟨rfl, q σ4 e4 fun vs h =>
    (((w4 vs fun j hj => h j (List.mem_append_right _ (List.mem_append_right _ (List.mem_append_right _ hj)))).trans (w3 vs fun j hj => h j (List.mem_append_right _ (List.mem_append_right _ (List.mem_append_left _ hj))))).trans (w2 vs fun j hj => h j (List.mem_append_right _ (List.mem_append_left _ hj)))).trans (w1 vs fun j hj => h j (List.mem_append_left _ hj))⟩⟩⟩⟩⟩
theorem gt_5 {x : T5 α β γ δ ε} {Γ1 Γ2 Γ3 Γ4 : List Sl} {g1 g2 g3 g4 g5 : TG} {js ks ls ms ns : List Nat} (h1 : GT K g1 Γ x.a Γ1 js) (h2 : GT K g2 Γ1 x.b Γ2 ks) (h3 : GT K g3 Γ2 x.c Γ3 ls) (h4 : GT K g4 Γ3 x.d Γ4 ms) (h5 : GT K g5 Γ4 x.e Γ' ns) : GT K (gTup K 5 (gCons g1 (gCons g2 (gCons g3 (gCons g4 (gCons g5 gNil)))))) Γ x Γ' (js ++ (ks ++ (ls ++ (ms ++ ns)))) := fun I F N σ v e d ⟨a, v1, v2, v3, v4, v5, r1, r2, r3, r4, r5, r6, r7⟩ Q q =>
  ⟨a, _, r1, sqt_ov d r2, rfl, v1, _, rfl, h1 I F N σ v1 e d r3 _ fun σ1 e1 w1 => ⟨v2, _, rfl, h2 I F N σ1 v2 e1 d r4 _ fun σ2 e2 w2 => ⟨v3, _, rfl, h3 I F N σ2 v3 e2 d r5 _ fun σ3 e3 w3 => ⟨v4, _, rfl, h4 I F N σ3 v4 e3 d r6 _ fun σ4 e4 w4 => ⟨v5, _, rfl, h5 I F N σ4 v5 e4 d r7 _ fun σ5 e5 w5 => ⟨rfl, q σ5 e5 fun vs h =>
    ((((w5 vs fun j hj => h j (List.mem_append_right _ (List.mem_append_right _ (List.mem_append_right _ (List.mem_append_right _ hj))))).trans (w4 vs fun j hj => h j (List.mem_append_right _ (List.mem_append_right _ (List.mem_append_right _ (List.mem_append_left _ hj)))))).trans (w3 vs fun j hj => h j (List.mem_append_right _ (List.mem_append_right _ (List.mem_append_left _ hj))))).trans (w2 vs fun j hj => h j (List.mem_append_right _ (List.mem_append_left _ hj)))).trans (w1 vs fun j hj => h j (List.mem_append_left _ hj))⟩⟩⟩⟩⟩⟩
/-- a, b = e and its like -/
theorem rp_tup {S : Type} [SH S] {Γ : S → List Sl} {te : TE} {g : TG} {m : Mn S α} {Γ' : α → S → List Sl} {js : List Nat} (h : EM K te Γ m) (hg : ∀ x s, GT K g (Γ s) x (Γ' x s) js) : RP (tAsg te g) Γ m Γ' := fun s I F N σ e d D q =>
  h s I F N σ e d _ (R.sat_imp q fun x s' q v I' N' a1 d1 e1 r1 => (hg x s').g s' I' F N' σ v e1 d1 r1 _ fun σ' e2 _ => q I' N' σ' a1 d1 e2)
/-- a, b = e1, e2 -/
theorem rp_par {S : Type} [SH S] {Γ : S → List Sl} {ta : TA} {m : Mn S (α × (β × Unit))} {Γ' : α × (β × Unit) → S → List Sl} (h : AM ta Γ m fun z => [pv K z.1, pv K z.2.1]) (hi : ∀ s, NotOw (Γ s) i) (hj : ∀ x s, NotOw ((Γ s).set i (.im (pv K (x : α)))) j)
    (hΓ : ∀ x y s, ((Γ s).set i (.im (pv K x))).set j (.im (pv K y)) = Γ' (x, (y, ())) s) : RP (tPar i j ta) Γ m Γ' := fun s I F N σ e d D q =>
  h s I F N σ e d _ (R.sat_imp q fun z s' q vs I' N' a1 d1 e1 r1 => by
    obtain ⟨v, _, rfl, r, r1⟩ := all2_c r1
    obtain ⟨w, _, rfl, r', r1⟩ := all2_c r1
    cases all2_n r1
    obtain ⟨x, y, u⟩ := z
    refine ⟨v, w, rfl, q I' N' _ a1 d1 ?_⟩
    rw [show Γ' (x, y, u) s' = ((Γ s').set i (.im (pv K x))).set j (.im (pv K y)) from (hΓ x y s').symm]
    exact (e1.set (p := pv K x) r (hi s')).set (p := pv K y) r' (hj x s'))
end

/-! ### loops -/
section
variable {S α τ τ' ρ β : Type} [SH S] [Rp α] {Ret : RetT ρ}
def forP {S α τ : Type} : List α → τ → (α → τ → Mn S τ) → Mn S τ
  | [], t, _ => mp t
  | x :: xs, t, b => mb (b x t) fun t' => forP xs t' b
/-- with ways out; a break ends the loop -/
def forC {S α τ ρ β : Type} : List α → τ → (α → τ → Mn S (Ct ρ τ τ)) → Mn S (Ct ρ τ β)
  | [], t, _ => mp (.nx t)
  | x :: xs, t, b => mb (b x t) fun c => match c with
    | .rt y => mp (.rt y)
    | .nx t' => forC xs t' b
    | .br t' => mp (.nx t')
theorem rp_for {wi : TI} {g : TG} {tb : TS} {Γ : S → List Sl} {mx : Mn S (List α)} {t0 : τ} {body : α → τ → Mn S τ} {ΓL : τ → S → List Sl} {Γx : α → τ → S → List Sl} {js : List Nat} (hi : IM K wi Γ mx) (w : ∀ s, Wk (Γ s) (ΓL t0 s)) (hg : ∀ x t s, GT K g (ΓL t s) x (Γx x t s) js)
    (hb : ∀ x t, RP tb (Γx x t) (body x t) ΓL) : RP (tFor wi g tb) Γ (mb mx fun xs => forP xs t0 body) ΓL := fun s I F N σ e d D q =>
  hi s I F N σ e d _ (R.sat_imp (sat_mb.mp q) fun xs s1 q J I1 N1 a1 d1 e1 jt => by
    obtain ⟨I2, N2, x1, x2, x3, x4⟩ := e1.wk (w s1) d1
    refine ⟨fun i m σ' H' => m = xs.length - i ∧ i ≤ xs.length ∧ ∃ (t : τ) (s' : S) (I' N' : Hp), H' = ov N' I' ∧ Ex I2 I' ∧ Dis N' I' ∧ EnvG s' I' F N' σ' (ΓL t s') ∧ (forP (xs.drop i) t body s').sat (fun x s' => ∀ I' N' σ', Ex I I' → Dis N' I' → EnvG s' I' F N' σ' (ΓL x s') → D.nx σ' (ov N' I')),
      ⟨xs.length, rfl, Nat.zero_le _, t0, s1, I2, N2, x3.symm, Ex.refl I2, x2, x4, q⟩, ?_⟩
    rintro i m σ' H' ⟨rfl, hle, t, s', I', N', rfl, y1, y2, y3, y4⟩
    by_cases hlt : i < xs.length
    · have hx : xs[i]? = some xs[i] := List.getElem?_eq_getElem hlt
      have j1 := (jt I' N' (x1.trans y1) y2).1 i _ hx
      refine .inr ⟨j1.1, fun σ2 H2 => ∃ (t : τ) (s' : S) (I' N' : Hp), H2 = ov N' I' ∧ Ex I2 I' ∧ Dis N' I' ∧ EnvG s' I' F N' σ2 (ΓL t s') ∧ (forP (xs.drop (i + 1)) t body s').sat (fun x s' => ∀ I' N' σ', Ex I I' → Dis N' I' → EnvG s' I' F N' σ' (ΓL x s') → D.nx σ' (ov N' I')),
        fun σ2 H2 hN => ⟨xs.length - (i + 1), by omega, rfl, hlt, hN⟩, fun v H2 hy => ?_⟩
      obtain ⟨I3, rfl, z1, z2, z3⟩ := j1.2 v H2 hy
      refine (hg xs[i] t s').g s' I3 F N' σ' v (y3.up z1) z2 z3 _ fun σ3 e3 _ => ?_
      rw [List.drop_eq_getElem_cons hlt] at y4
      refine hb xs[i] t s' I3 F N' σ3 e3 z2 _ (R.sat_imp (sat_mb.mp y4) fun t' s2 q2 I4 N4 σ4 a4 d4 e4 => ?_)
      exact ⟨t', s2, I4, N4, rfl, (y1.trans z1).trans a4, d4, e4, q2⟩
    · have hi : i = xs.length := by omega
      subst hi
      rw [List.drop_length] at y4
      exact .inl ⟨(jt I' N' (x1.trans y1) y2).2, y4 I' N' σ' ((a1.trans x1).trans y1) y2 y3⟩)
theorem rc_for {wi : TI} {g : TG} {tb : TS} {Γ Γr : S → List Sl} {mx : Mn S (List α)} {t0 : τ} {body : α → τ → Mn S (Ct ρ τ τ)} {ΓL : τ → S → List Sl} {Γb : β → S → List Sl} {Γx : α → τ → S → List Sl} {js : List Nat} (hi : IM K wi Γ mx) (w : ∀ s, Wk (Γ s) (ΓL t0 s)) (hg : ∀ x t s, GT K g (ΓL t s) x (Γx x t s) js)
    (hb : ∀ x t, RC Ret tb (Γx x t) (body x t) Γr ΓL ΓL) : RC Ret (tFor wi g tb) Γ (mb mx fun xs => forC xs t0 body) Γr ΓL Γb := fun s I F N σ e d D q =>
  hi s I F N σ e d _ (R.sat_imp (sat_mb.mp q) fun xs s1 q J I1 N1 a1 d1 e1 jt => by
    obtain ⟨I2, N2, x1, x2, x3, x4⟩ := e1.wk (w s1) d1
    refine ⟨fun i m σ' H' => m = xs.length - i ∧ i ≤ xs.length ∧ ∃ (t : τ) (s' : S) (I' N' : Hp), H' = ov N' I' ∧ Ex I2 I' ∧ Dis N' I' ∧ EnvG s' I' F N' σ' (ΓL t s') ∧ (forC (xs.drop i) t body s').sat (CtQ Ret D F Γr ΓL Γb I),
      ⟨xs.length, rfl, Nat.zero_le _, t0, s1, I2, N2, x3.symm, Ex.refl I2, x2, x4, q⟩, ?_⟩
    rintro i m σ' H' ⟨rfl, hle, t, s', I', N', rfl, y1, y2, y3, y4⟩
    by_cases hlt : i < xs.length
    · have hx : xs[i]? = some xs[i] := List.getElem?_eq_getElem hlt
      have j1 := (jt I' N' (x1.trans y1) y2).1 i _ hx
      refine .inr ⟨j1.1, fun σ2 H2 => ∃ (t : τ) (s' : S) (I' N' : Hp), H2 = ov N' I' ∧ Ex I2 I' ∧ Dis N' I' ∧ EnvG s' I' F N' σ2 (ΓL t s') ∧ (forC (xs.drop (i + 1)) t body s').sat (CtQ Ret D F Γr ΓL Γb I),
        fun σ2 H2 hN => ⟨xs.length - (i + 1), by omega, rfl, hlt, hN⟩, fun v H2 hy => ?_⟩
      obtain ⟨I3, rfl, z1, z2, z3⟩ := j1.2 v H2 hy
      refine (hg xs[i] t s').g s' I3 F N' σ' v (y3.up z1) z2 z3 _ fun σ3 e3 _ => ?_
      rw [List.drop_eq_getElem_cons hlt] at y4
      refine hb xs[i] t s' I3 F N' σ3 e3 z2 _ (R.sat_imp (sat_mb.mp y4) fun c s2 q2 => ?_)
      have ex3 : Ex I I3 := ((a1.trans x1).trans y1).trans z1
      cases c with
      | rt y => exact fun v H4 I4 N4 σ4 a4 e4 r4 => q2 v H4 I4 N4 σ4 (ex3.trans a4) e4 r4
      | nx t' => exact fun I4 N4 σ4 a4 d4 e4 => ⟨t', s2, I4, N4, rfl, (y1.trans z1).trans a4, d4, e4, q2⟩
      | br t' => exact fun I4 N4 σ4 a4 d4 e4 => q2 I4 N4 σ4 (ex3.trans a4) d4 e4
    · have hi : i = xs.length := by omega
      subst hi
      rw [List.drop_length] at y4
      exact .inl ⟨(jt I' N' (x1.trans y1) y2).2, y4 I' N' σ' ((a1.trans x1).trans y1) y2 y3⟩)
/-- while, of so many turns at most -/
def whP {S τ : Type} : Nat → τ → (τ → Mn S Bool) → (τ → Mn S τ) → Mn S τ
  | 0, _, _, _ => mbad
  | n + 1, t, c, b => mb (c t) fun k => mi k (mb (b t) fun t' => whP n t' c b) (mp t)
theorem rp_while {tc : TT} {tb : TS} {Γ : S → List Sl} {n : Nat} {t0 : τ} {mc : τ → Mn S Bool} {body : τ → Mn S τ} {ΓL : τ → S → List Sl} (w : ∀ s, Wk (Γ s) (ΓL t0 s)) (hc : ∀ t, TM tc (ΓL t) (mc t)) (hb : ∀ t, RP tb (ΓL t) (body t) ΓL) :
    RP (tWhile tc tb) Γ (whP n t0 mc body) ΓL := fun s I F N σ e d D q => by
  obtain ⟨I2, N2, x1, x2, x3, x4⟩ := e.wk (w s) d
  refine ⟨fun m σ' H' => ∃ (t : τ) (s' : S) (I' N' : Hp), H' = ov N' I' ∧ Ex I2 I' ∧ Dis N' I' ∧ EnvG s' I' F N' σ' (ΓL t s') ∧ (whP m t mc body s').sat (fun x s' => ∀ I' N' σ', Ex I I' → Dis N' I' → EnvG s' I' F N' σ' (ΓL x s') → D.nx σ' (ov N' I')),
    ⟨n, t0, s, I2, N2, x3.symm, Ex.refl I2, x2, x4, q⟩, ?_⟩
  rintro m σ' H' ⟨t, s', I', N', rfl, y1, y2, y3, y4⟩
  cases m with
  | zero => exact y4.elim
  | succ m =>
    refine hc t s' I' F N' σ' y3 y2 _ (R.sat_imp (sat_mb.mp y4) fun k s2 q2 I3 N3 a3 d3 e3 => ?_)
    cases k with
    | true =>
      refine ⟨fun σ2 H2 => ∃ (t : τ) (s' : S) (I' N' : Hp), H2 = ov N' I' ∧ Ex I2 I' ∧ Dis N' I' ∧ EnvG s' I' F N' σ2 (ΓL t s') ∧ (whP m t mc body s').sat (fun x s' => ∀ I' N' σ', Ex I I' → Dis N' I' → EnvG s' I' F N' σ' (ΓL x s') → D.nx σ' (ov N' I')),
        fun σ2 H2 hN => ⟨m, Nat.lt_succ_self m, hN⟩, ?_⟩
      exact hb t s2 I3 F N3 σ' e3 d3 _ (R.sat_imp (sat_mb.mp q2) fun t' s3 q3 I4 N4 σ4 a4 d4 e4 => ⟨t', s3, I4, N4, rfl, (y1.trans a3).trans a4, d4, e4, q3⟩)
    | false => exact q2 I3 N3 σ' ((x1.trans y1).trans a3) d3 e3
/-- .. with ways out -/
def whC {S τ ρ β : Type} : Nat → τ → (τ → Mn S Bool) → (τ → Mn S (Ct ρ τ τ)) → Mn S (Ct ρ τ β)
  | 0, _, _, _ => mbad
  | n + 1, t, c, b => mb (c t) fun k => mi k (mb (b t) fun u => match u with
    | .rt y => mp (.rt y)
    | .nx t' => whC n t' c b
    | .br t' => mp (.nx t')) (mp (.nx t))
theorem rc_while {tc : TT} {tb : TS} {Γ Γr : S → List Sl} {n : Nat} {t0 : τ} {mc : τ → Mn S Bool} {body : τ → Mn S (Ct ρ τ τ)} {ΓL : τ → S → List Sl} {Γb : β → S → List Sl} (w : ∀ s, Wk (Γ s) (ΓL t0 s)) (hc : ∀ t, TM tc (ΓL t) (mc t)) (hb : ∀ t, RC Ret tb (ΓL t) (body t) Γr ΓL ΓL) :
    RC Ret (tWhile tc tb) Γ (whC n t0 mc body) Γr ΓL Γb := fun s I F N σ e d D q => by
  obtain ⟨I2, N2, x1, x2, x3, x4⟩ := e.wk (w s) d
  refine ⟨fun m σ' H' => ∃ (t : τ) (s' : S) (I' N' : Hp), H' = ov N' I' ∧ Ex I2 I' ∧ Dis N' I' ∧ EnvG s' I' F N' σ' (ΓL t s') ∧ (whC m t mc body s').sat (CtQ Ret D F Γr ΓL Γb I),
    ⟨n, t0, s, I2, N2, x3.symm, Ex.refl I2, x2, x4, q⟩, ?_⟩
  rintro m σ' H' ⟨t, s', I', N', rfl, y1, y2, y3, y4⟩
  cases m with
  | zero => exact y4.elim
  | succ m =>
    refine hc t s' I' F N' σ' y3 y2 _ (R.sat_imp (sat_mb.mp y4) fun k s2 q2 I3 N3 a3 d3 e3 => ?_)
    cases k with
    | true =>
      refine ⟨fun σ2 H2 => ∃ (t : τ) (s' : S) (I' N' : Hp), H2 = ov N' I' ∧ Ex I2 I' ∧ Dis N' I' ∧ EnvG s' I' F N' σ2 (ΓL t s') ∧ (whC m t mc body s').sat (CtQ Ret D F Γr ΓL Γb I),
        fun σ2 H2 hN => ⟨m, Nat.lt_succ_self m, hN⟩, ?_⟩
      refine hb t s2 I3 F N3 σ' e3 d3 _ (R.sat_imp (sat_mb.mp q2) fun u s3 q3 => ?_)
      have ex3 : Ex I I3 := (x1.trans y1).trans a3
      cases u with
      | rt y => exact fun v H4 I4 N4 σ4 a4 e4 r4 => q3 v H4 I4 N4 σ4 (ex3.trans a4) e4 r4
      | nx t' => exact fun I4 N4 σ4 a4 d4 e4 => ⟨t', s3, I4, N4, rfl, (y1.trans a3).trans a4, d4, e4, q3⟩
      | br t' => exact fun I4 N4 σ4 a4 d4 e4 => q3 I4 N4 σ4 (ex3.trans a4) d4 e4
    | false => exact q2 I3 N3 σ' ((x1.trans y1).trans a3) d3 e3
end

/-! ### comprehensions -/
theorem EnvOk.sub {I F : Hp} : ∀ {N : Hp} {σ : L2.St} {Γ : List Sl}, EnvOk I F N σ Γ → ∀ {a : Addr}, N a = none → F a = none
  | _, _, _, .nil, a, h => h
  | _, _, _, .no o e, a, h => EnvOk.sub e h
  | _, _, _, .im q e, a, h => EnvOk.sub e h
  | _, _, _, .ow q d e, a, h => EnvOk.sub e (ov_none h).2
def NoAt (Γ : List Sl) (vs : List Nat) : Prop := vs.all (fun v => match Γ[v]? with | some .no => true | _ => false) = true
theorem NoAt.at {Γ : List Sl} {vs : List Nat} (h : NoAt Γ vs) {v : Nat} (hv : v ∈ vs) : Γ[v]? = some .no := by
  have q := List.all_eq_true.mp h v hv
  cases e : Γ[v]? with
  | none => rw [e] at q; cases q
  | some a =>
    cases a with
    | no => rfl
    | im p => rw [e] at q; cases q
    | ow p => rw [e] at q; cases q
/-- slots of which nothing is known may hold anything -/
theorem EnvOk.ext {I F : Hp} : ∀ {N : Hp} {σ : L2.St} {Γ : List Sl} {σ' : L2.St}, EnvOk I F N σ Γ → σ.length = σ'.length → (∀ i : Nat, Γ[i]? ≠ some Sl.no → σ[i]? = σ'[i]?) → EnvOk I F N σ' Γ
  | _, _, _, σ', .nil, h, _ => by
    cases σ' with
    | nil => exact .nil
    | cons a b => simp at h
  | _, _, _, [], .no o e, h, _ => by simp at h
  | _, _, _, a :: σ', .no o e, h, g => .no a (EnvOk.ext e (by simpa using h) fun i hi => by have q := g (i + 1) (by simpa using hi); simpa using q)
  | _, _, _, [], .im q e, h, _ => by simp at h
  | _, _, _, a :: σ', .im q e, h, g => by
    have q0 := g 0 (by simp)
    have q1 : some _ = a := Option.some.inj q0
    subst q1
    exact .im q (EnvOk.ext e (by simpa using h) fun i hi => by have q := g (i + 1) (by simpa using hi); simpa using q)
  | _, _, _, [], .ow q d e, h, _ => by simp at h
  | _, _, _, a :: σ', .ow q d e, h, g => by
    have q0 := g 0 (by simp)
    have q1 : some _ = a := Option.some.inj q0
    subst q1
    exact .ow q d (EnvOk.ext e (by simpa using h) fun i hi => by have q := g (i + 1) (by simpa using hi); simpa using q)
theorem EnvOk.rewipe {I F N : Hp} {σ σ' : L2.St} {Γ : List Sl} {vs : List Nat} (e : EnvOk I F N σ Γ) (h : NoAt Γ vs) (w : wipe σ vs = wipe σ' vs) : EnvOk I F N σ' Γ := by
  refine e.ext ?_ fun i hi => ?_
  · have l := congrArg List.length w
    rw [wipe_length, wipe_length] at l
    exact l
  · have hv : i ∉ vs := fun q => hi (h.at q)
    have g := congrArg (fun z : L2.St => z[i]?) w
    have g2 : (wipe σ vs)[i]? = (wipe σ' vs)[i]? := g
    rw [wipe_get, wipe_get, if_neg hv, if_neg hv] at g2
    exact g2
section
variable {S : Type} [SH S] {s : S} {I F N : Hp} {σ : L2.St} {Γ : List Sl}
theorem EnvG.sub (h : EnvG s I F N σ Γ) {a : Addr} (n : N a = none) : F a = none := let ⟨_, _, _, e⟩ := h; (ov_none (e.sub n)).2
theorem EnvG.ext {σ' : L2.St} (h : EnvG s I F N σ Γ) (l : σ.length = σ'.length) (q : ∀ i : Nat, Γ[i]? ≠ some Sl.no → σ[i]? = σ'[i]?) : EnvG s I F N σ' Γ := let ⟨G, h1, h2, e⟩ := h; ⟨G, h1, h2, e.ext l q⟩
theorem EnvG.rewipe {σ' : L2.St} {vs : List Nat} (h : EnvG s I F N σ Γ) (n : NoAt Γ vs) (w : wipe σ vs = wipe σ' vs) : EnvG s I F N σ' Γ := let ⟨G, h1, h2, e⟩ := h; ⟨G, h1, h2, e.rewipe n w⟩
end
section
variable {S α β : Type} [SH S] [Rp α] [Rp β]
def cmGo {S α β : Type} : List α → List β → (α → Mn S Bool) → (α → Mn S β) → Mn S (List β)
  | [], acc, _, _ => mp acc
  | x :: xs, acc, c, f => mb (c x) fun k => mi k (mb (f x) fun y => cmGo xs (acc ++ [y]) c f) (cmGo xs acc c f)
/-- [f(x) for x in xs if c(x)] -/
def cmP {S α β : Type} (xs : List α) (c : α → Mn S Bool) (f : α → Mn S β) : Mn S (List β) := mb (mc (decide (xs.length ≤ 16000000)) ()) fun _ => cmGo xs [] c f
theorem em_lc {wi : TI} {g : TG} {tt : TT} {te : TE} {vs : List Nat} {Γ : S → List Sl} {mx : Mn S (List α)} {c : α → Mn S Bool} {f : α → Mn S β} {Γx : α → S → List Sl} {js : List Nat} (hi : IM K wi Γ mx) (hv : ∀ s, NoAt (Γ s) vs)
    (hg : ∀ x s, GT K g (Γ s) x (Γx x s) js) (hj : js.all (fun j => vs.contains j) = true) (hc : ∀ x, TM tt (Γx x) (c x)) (hf : ∀ x, EM K te (Γx x) (f x)) (wb : ∀ x s, Wk (Γx x s) (Γ s)) : EM K (tLc wi g tt te vs) Γ (mb mx fun xs => cmP xs c f) := fun s I F N σ e d Q q =>
  hi s I F N σ e d _ (R.sat_imp (sat_mb.mp q) fun xs s1 q J I1 N1 a1 d1 e1 jt => by
    obtain ⟨hlen, q⟩ := sat_mc.mp (sat_mb.mp q)
    have hlen := of_decide_eq_true hlen
    intro D hD
    obtain ⟨hD1, hD2⟩ := ov_none hD
    have hDF : F D = none := e1.sub hD1
    have hjs : ∀ j ∈ js, j ∈ vs := fun j hj' => by simpa using List.all_eq_true.mp hj j hj'
    refine ⟨fun i m H' => m = xs.length - i ∧ i ≤ xs.length ∧ ∃ (s' : S) (I' N' : Hp) (acc : List β) (us : List V), H' = ov (ov (sing D (.lst us)) N') I' ∧ Ex I1 I' ∧ Dis N' I' ∧ I' D = none ∧ N' D = none ∧ EnvG s' I' F N' σ (Γ s') ∧ Rs K acc I' us ∧ acc.length ≤ i ∧
      (cmGo (xs.drop i) acc c f s').sat (fun x s' => ∀ v I' M', Ex I I' → Dis M' I' → EnvG s' I' F M' σ (Γ s') → Rp.r K x I' v → Q v (ov M' I')),
      ⟨xs.length, rfl, Nat.zero_le _, s1, I1, N1, [], [], by rw [upd_sing, ov_assoc], Ex.refl I1, d1, hD2, hD1, e1, .nil, Nat.le_refl _, q⟩, ?_⟩
    rintro i m H' ⟨rfl, hle, s', I', N', acc, us, rfl, y1, y2, y3, y4, y5, y6, y7, y8⟩
    have dG : Dis (sing D (.lst us)) N' := dis_sing y4
    have dGI : Dis (ov (sing D (.lst us)) N') I' := dis_ov (dis_sing y3) y2
    by_cases hlt : i < xs.length
    · have hx : xs[i]? = some xs[i] := List.getElem?_eq_getElem hlt
      have j1 := (jt I' _ y1 dGI).1 i _ hx
      refine .inr ⟨j1.1, fun H' => ∃ (s' : S) (I' N' : Hp) (acc : List β) (us : List V), H' = ov (ov (sing D (.lst us)) N') I' ∧ Ex I1 I' ∧ Dis N' I' ∧ I' D = none ∧ N' D = none ∧ EnvG s' I' F N' σ (Γ s') ∧ Rs K acc I' us ∧ acc.length ≤ i + 1 ∧
        (cmGo (xs.drop (i + 1)) acc c f s').sat (fun x s' => ∀ v I' M', Ex I I' → Dis M' I' → EnvG s' I' F M' σ (Γ s') → Rp.r K x I' v → Q v (ov M' I')), fun H' hN => ⟨xs.length - (i + 1), by omega, rfl, hlt, hN⟩, fun v H2 hy => ?_⟩
      obtain ⟨I3, rfl, z1, z2, z3⟩ := j1.2 v H2 hy
      have ew : EnvG s' I3 (ov (sing D (.lst us)) F) (ov (sing D (.lst us)) N') (wipe σ vs) (Γ s') := by
        have e3 := (y5.up z1).frame dG
        refine e3.rewipe (hv s') ?_
        rw [wipe_wipe]
      refine (hg xs[i] s').g s' I3 _ _ _ v ew z2 z3 _ fun σ3 e3 w3 => ?_
      have w4 : wipe σ3 vs = wipe σ vs := by rw [w3 vs hjs, wipe_wipe]
      refine ⟨w4, ?_⟩
      rw [List.drop_eq_getElem_cons hlt] at y8
      refine hc xs[i] s' I3 _ _ σ3 e3 z2 _ (R.sat_imp (sat_mb.mp y8) fun k s2 q2 I4 N4 a4 d4 e4 => ?_)
      have back : ∀ {I5 M5 : Hp} {s5 : S}, EnvG s5 I5 (ov (sing D (.lst us)) F) M5 σ3 (Γx xs[i] s5) → Dis M5 I5 → ∃ I6 N6, Ex I5 I6 ∧ ov M5 I5 = ov (ov (sing D (.lst us)) N6) I6 ∧ Dis N6 I6 ∧ I6 D = none ∧ N6 D = none ∧ EnvG s5 I6 F N6 σ (Γ s5) := fun {I5 M5 s5} e5 d5 => by
        obtain ⟨I6, M6, x1, x2, x3, x4⟩ := e5.wk (wb xs[i] s5) d5
        obtain ⟨N6, h1, h2, h3⟩ := x4.unframe (dis_sing hDF)
        subst h1
        obtain ⟨x5, x6⟩ := dis_ov_l x2
        exact ⟨I6, N6, x1, x3.symm, x6, x5.some_l sing_same, h2.some_l sing_same, h3.rewipe (hv s5) w4⟩
      cases k with
      | true =>
        show te σ3 (ov N4 I4) _
        refine hf xs[i] s2 I4 _ N4 σ3 e4 d4 _ (R.sat_imp (sat_mb.mp q2) fun y s3 q3 u I5 N5 a5 d5 e5 r5 => ?_)
        obtain ⟨I6, N6, b1, b2, b3, b4, b5, b6⟩ := back e5 d5
        refine ⟨us, ?_, ?_, s3, I6, N6, acc ++ [y], us ++ [u], ?_, ((((y1.trans z1).trans a4).trans a5).trans b1), b3, b4, b5, b6, (rs_up (((z1.trans a4).trans a5).trans b1) y6).append (.cons (Rp.up b1 r5) .nil), by rw [List.length_append]; simpa using y7, q3⟩
        · rw [b2]; exact ov_l (ov_l sing_same)
        · rw [← y6.length]
          exact Nat.lt_of_le_of_lt (Nat.le_trans y7 (Nat.le_trans (Nat.le_of_lt hlt) hlen)) (by decide)
        · rw [b2, upd_own]
      | false =>
        obtain ⟨I6, N6, b1, b2, b3, b4, b5, b6⟩ := back e4 d4
        exact ⟨s2, I6, N6, acc, us, b2, ((y1.trans z1).trans a4).trans b1, b3, b4, b5, b6, rs_up ((z1.trans a4).trans b1) y6, by omega, q2⟩
    · have hi : i = xs.length := by omega
      subst hi
      rw [List.drop_length] at y8
      refine .inl ⟨(jt I' _ y1 dGI).2, ?_⟩
      have dG2 : Dis (sing D (.lst us)) I' := dis_sing y3
      have e9 : ov (ov (sing D (.lst us)) N') I' = ov N' (ov (sing D (.lst us)) I') := by rw [ov_comm dG, ov_assoc]
      rw [e9]
      exact y8 _ _ N' ((a1.trans y1).trans (ex_ov dG2)) (dis_ov_r dG.symm y2) (y5.up (ex_ov dG2)) ⟨D, us, rfl, ov_l sing_same, rs_up (ex_ov dG2) y6⟩)
theorem tm_yes {Γ : S → List Sl} : TM tYes Γ (mp true) := fun s I F N σ e d Q q => q I N (Ex.refl I) d e
end

/-! ### a def's body keeps its promise -/
def tagL : List V → List Sl → List Sl
  | v :: vs, .ow P :: Γ => .ow (P.at v) :: tagL vs Γ
  | _ :: vs, a :: Γ => a :: tagL vs Γ
  | _, Γ => Γ
def tagR : List V → List Sl → List Sl
  | v :: vs, .ow P :: Γ => .ow (P.at v) :: tagR vs Γ
  | _ :: vs, .im _ :: Γ => .no :: tagR vs Γ
  | _ :: vs, a :: Γ => a :: tagR vs Γ
  | _, Γ => Γ
theorem EnvOk.tag {I F : Hp} : ∀ {vs : List V} {N : Hp} {Γ : List Sl}, EnvOk I F N (vs.map some) Γ → EnvOk I F N (vs.map some) (tagL vs Γ)
  | [], _, _, .nil => .nil
  | v :: vs, N, Γ, e => by
    have e1 : EnvOk I F N (some v :: vs.map some) Γ := e
    show EnvOk I F N (some v :: vs.map some) (tagL (v :: vs) Γ)
    cases e1 with
    | no o e2 => exact .no _ (EnvOk.tag e2)
    | im q e2 => exact .im q (EnvOk.tag e2)
    | ow q d e2 => exact .ow ⟨rfl, q⟩ d (EnvOk.tag e2)
theorem EnvOk.untag {S : Type} {s s' : S} {I I' F F' : Hp} (x : Ex I I') {k : Nat} : ∀ {As : List (Ar S)} {vs : List V} {N N' : Hp} {σ' : L2.St}, EnvOk I F N (vs.map some) (As.map (Ar.sl s)) → EnvOk I' F' N' σ' (tagR vs (As.map (Ar.sl s')) ++ List.replicate k .no) → EnvOk I' F' N' (vs.map some) (As.map (Ar.sl s'))
  | [], [], _, _, _, _, e' => by
    cases EnvOk.nos (k := k) e'
    exact .nil
  | [], _ :: _, _, _, _, e, _ => by cases e
  | .im p :: As, v :: vs, _, _, σ', e, e' => by
    have e1 : EnvOk I F _ (some v :: vs.map some) (.im p :: As.map (Ar.sl s)) := e
    have e2 : EnvOk I' F' _ σ' (.no :: (tagR vs (As.map (Ar.sl s')) ++ List.replicate k .no)) := e'
    cases e1 with
    | im q e1 =>
      cases e2 with
      | no o e2 => exact .im (p.up x q) (EnvOk.untag x e1 e2)
  | .im p :: As, [], _, _, _, e, _ => by cases e
  | .ow P :: As, [], _, _, _, e, _ => by cases e
  | .ow P :: As, v :: vs, _, _, σ', e, e' => by
    have e1 : EnvOk I F _ (some v :: vs.map some) (.ow (P s) :: As.map (Ar.sl s)) := e
    have e2 : EnvOk I' F' _ σ' (.ow ((P s').at v) :: (tagR vs (As.map (Ar.sl s')) ++ List.replicate k .no)) := e'
    cases e1 with
    | ow q d e1 =>
      cases e2 with
      | ow q2 d2 e2 =>
        obtain ⟨q3, q4⟩ := q2
        cases q3
        exact .ow q4 d2 (EnvOk.untag x e1 e2)
theorem EnvG.tag {S : Type} [SH S] {s : S} {I F N : Hp} {vs : List V} {Γ : List Sl} (h : EnvG s I F N (vs.map some) Γ) : EnvG s I F N (vs.map some) (tagL vs Γ) := let ⟨G, h1, h2, e⟩ := h; ⟨G, h1, h2, e.tag⟩
theorem EnvG.untag {S : Type} [SH S] {s s' : S} {I I' F F' : Hp} (x : Ex I I') {k : Nat} {As : List (Ar S)} {vs : List V} {N N' : Hp} {σ' : L2.St} (h : EnvG s I F N (vs.map some) (As.map (Ar.sl s))) (h' : EnvG s' I' F' N' σ' (tagR vs (As.map (Ar.sl s')) ++ List.replicate k .no)) : EnvG s' I' F' N' (vs.map some) (As.map (Ar.sl s')) :=
  let ⟨_, _, _, e⟩ := h; let ⟨G, h1, h2, e'⟩ := h'; ⟨G, h1, h2, EnvOk.untag x e e'⟩
theorem prom_ok {S ρ ι : Type} [SH S] {Ret : RetT ρ} {As : ι → List (Ar S)} {m : ι → Mn S ρ} {t : TS} {N : List Str} {vs : List V} {H : Hp} {Q : VK} {E : XK} {n : Nat} (k : Nat) (hA : ∀ i, (As i).length = n) (hk : N.length - n = k)
    (h : ∀ i, RN Ret t (fun s => tagL vs ((As i).map (Ar.sl s)) ++ List.replicate k .no) (m i) (fun s => tagR vs ((As i).map (Ar.sl s)) ++ List.replicate k .no)) (p : Prom Ret As m vs H Q E) : t { nx := fun _ H' => Q .non H', rt := Q } (L2.start N vs) H := by
  have hl := prom_len hA vs H Q E p
  obtain ⟨i, s, I, F, M, rfl, d, e, q⟩ := p
  have e0 : L2.start N vs = vs.map some ++ List.replicate k none := by unfold L2.start; rw [hl, hk]
  rw [e0]
  exact h i s I F M _ (e.tag.app k) d _ (fun σ H q => q) (R.sat_imp q fun x s' q v H' I' N' σ' a1 e1 r1 => q v H' I' N' a1 (e.untag a1 e1) r1)
end
end Mir

/-! Mir6: owned things made, stored, changed; built-ins; calls by names -/
namespace Mir
open PySem L2
section
variable {K : PySem.W.Frag}
/-! ### owned things -/
section
variable {S ρ α β ζ τ : Type} [SH S] [Rp α] [Rp β] {Γ : S → List Sl} {te ta tb : TE} {tl : TA} {xs : List α}
/-- handed back as owned: so it may be kept as it is -/
theorem em_own {m : Mn S α} {P : α → OP} (h : EO te Γ m (rOw P)) (fr : ∀ x I a Ma, Dis Ma I → (P x).r I a Ma → Rp.r K x (ov Ma I) (.ref a)) : EM K te Γ m := fun s I F N σ e d Q q => h s I F N σ e d Q (R.sat_imp q fun x s' q v H' I' N' a1 e1 ⟨a, Ma, h1, h2, h3, h4, h5⟩ => by
  obtain ⟨y1, y2⟩ := dis_ov_l h3
  subst h1 h4
  have e9 : ov (ov Ma N') I' = ov N' (ov Ma I') := by rw [ov_comm h2, ov_assoc]
  rw [e9]
  exact q _ _ N' (a1.trans (ex_ov y1)) (dis_ov_r h2.symm y2) (e1.up (ex_ov y1)) (fr x I' a Ma y1 h5))
theorem em_ownL {m : Mn S (List α)} (h : EO te Γ m (rOw (ol K))) : EM K te Γ m := em_own h fun x I a Ma d q => fr_ol I a Ma d q
/-- a new list -/
theorem new_list {I N : Hp} {p : Addr} {vs : List V} (d : Dis N I) (hp : ov N I p = none) (r : Rs K xs I vs) : rOw (ol K) xs (.ref p) I N (upd (ov N I) p (.lst vs)) := by
  obtain ⟨h1, h2⟩ := ov_none hp
  exact ⟨p, sing p (.lst vs), rfl, dis_sing h1, dis_ov (dis_sing h2) d, by rw [upd_sing, ov_assoc], vs, rfl, r⟩
theorem eo_lst (h : ∀ s, AP tl (Γ s) (xs.map (pv K))) (hl : xs.length ≤ 1000 := by decide) : EO (tLst tl) Γ (mp xs) (rOw (ol K)) := fun s I F N σ e d Q q => h s I F N σ e d _ fun vs I1 a1 d1 r1 => by
  have r := rs_of r1
  exact ⟨by rw [← r.length]; exact sz2 hl, fun p hp => q _ _ I1 N a1 (e.up a1) (new_list d1 hp r)⟩
theorem eo_lstM {m : Mn S ζ} {f : ζ → List α} (h : AM tl Γ m fun z => (f z).map (pv K)) (hl : ∀ z, (f z).length ≤ 1000 := by intro _; decide) : EO (tLst tl) Γ (mb m fun z => mp (f z)) (rOw (ol K)) := fun s I F N σ e d Q q => h s I F N σ e d _ (R.sat_imp (sat_mb.mp q) fun z s1 q vs I1 N1 a1 d1 e1 r1 => by
  have r := rs_of r1
  exact ⟨by rw [← r.length]; exact sz2 (hl z), fun p hp => q _ _ I1 N1 a1 e1 (new_list d1 hp r)⟩)
/-- a list of written values of several types -/
theorem eo_hl {x : ρ} {P : ρ → OP} {ps : List PV} {us : List V} (h : ∀ s, AP tl (Γ s) ps) (hu : ∀ I vs, All2 (fun (p : PV) v => p.r I v) ps vs → vs = us) (hP : P x = hl us) (hl : us.length ≤ 1000 := by decide) : EO (tLst tl) Γ (mp x) (rOw P) := fun s I F N σ e d Q q => h s I F N σ e d _ fun vs I1 a1 d1 r1 => by
  have e1 := hu _ _ r1
  subst e1
  refine ⟨sz2 hl, fun p hp => ?_⟩
  obtain ⟨h1, h2⟩ := ov_none hp
  refine q _ _ I1 N a1 (e.up a1) ⟨p, sing p (.lst vs), rfl, dis_sing h1, dis_ov (dis_sing h2) d1, by rw [upd_sing, ov_assoc], ?_⟩
  rw [hP]
  rfl
theorem eo_hlM {m : Mn S ζ} {f : ζ → ρ} {P : ρ → OP} {ps : ζ → List PV} {us : ζ → List V} (h : AM tl Γ m ps) (hu : ∀ z I vs, All2 (fun (p : PV) v => p.r I v) (ps z) vs → vs = us z) (hP : ∀ z, P (f z) = Mir.hl (us z)) (hl : ∀ z, (us z).length ≤ 1000 := by intro _; decide) : EO (tLst tl) Γ (mb m fun z => mp (f z)) (rOw P) := fun s I F N σ e d Q q => h s I F N σ e d _ (R.sat_imp (sat_mb.mp q) fun z s1 q vs I1 N1 a1 d1 e1 r1 => by
  have e2 := hu z _ _ r1
  subst e2
  refine ⟨sz2 (hl z), fun p hp => ?_⟩
  obtain ⟨h1, h2⟩ := ov_none hp
  refine q _ _ I1 N1 a1 e1 ⟨p, sing p (.lst _), rfl, dis_sing h1, dis_ov (dis_sing h2) d1, by rw [upd_sing, ov_assoc], ?_⟩
  rw [hP]
  rfl)
/-- x = e, e something owned -/
theorem rp_take {i : Nat} {m : Mn S ρ} {P : ρ → OP} {Γ' : ρ → S → List Sl} (h : EO te Γ m (rOw P)) (hn : ∀ s, NotOw (Γ s) i) (hl : ∀ s, i < (Γ s).length) (hΓ : ∀ x s, (Γ s).set i (.ow (P x)) = Γ' x s) : RP (tAsg te (gName i)) Γ m Γ' := fun s I F N σ e d D q =>
  h s I F N σ e d _ (R.sat_imp q fun x s' q v H' I' N' a1 e1 ⟨a, Ma, h1, h2, h3, h4, h5⟩ => by
    subst h1 h4
    refine q I' _ _ a1 h3 ?_
    rw [← hΓ]
    exact e1.take h5 (hn s') (hl s') h2)
/-! ### what is owned, read: an expression of a written type -/
def noOw (Γ : List Sl) : Bool := Γ.all fun a => !isOw a
theorem EnvOk.noOw {I F : Hp} : ∀ {N : Hp} {σ : L2.St} {Γ : List Sl}, EnvOk I F N σ Γ → Mir.noOw Γ = true → N = F
  | _, _, _, .nil, _ => rfl
  | _, _, _, .no o e, h => EnvOk.noOw e h
  | _, _, _, .im q e, h => EnvOk.noOw e h
  | _, _, _, .ow q d e, h => by cases h
theorem EnvOk.subF {I F : Hp} : ∀ {N : Hp} {σ : L2.St} {Γ : List Sl}, EnvOk I F N σ Γ → ∀ {a : Addr} {o : HO}, F a = some o → N a = some o
  | _, _, _, .nil, a, o, h => h
  | _, _, _, .no _ e, a, o, h => EnvOk.subF e h
  | _, _, _, .im q e, a, o, h => EnvOk.subF e h
  | _, _, _, .ow q d e, a, o, h => by
    have h1 := EnvOk.subF e h
    rw [ov_r (d.some_r h1)]
    exact h1
theorem bor {I F N : Hp} {σ : L2.St} {Γs Γ0 : List Sl} (e : EnvOk I F N σ Γs) (d : Dis N I) (w : Wk Γs Γ0) (n : noOw Γ0 = true) : ∃ I1, Dis F I1 ∧ EnvOk I1 F F σ Γ0 ∧ ov F I1 = ov N I ∧ (∀ I2, Ex I1 I2 → Dis F I2 → ∃ I3, Ex I I3 ∧ Dis N I3 ∧ ov N I3 = ov F I2) := by
  obtain ⟨I1, N1, x1, x2, x3, x4⟩ := e.wk w d
  cases x4.noOw n
  refine ⟨I1, x2, x4, x3, fun I2 a2 d2 => ⟨fun a => match N a with
    | some _ => none
    | none => I2 a, fun a o h => ?_, fun a => ?_, ?_⟩⟩
  · have hN := d.some_r h
    show (match N a with | some _ => none | none => I2 a) = some o
    rw [hN]
    exact a2 a o (x1 a o h)
  · cases hN : N a with
    | none => exact .inl rfl
    | some o =>
      refine .inr ?_
      show (match N a with | some _ => none | none => I2 a) = none
      rw [hN]
  · funext a
    cases hN : N a with
    | none =>
      rw [ov_r hN]
      show (match N a with | some _ => none | none => I2 a) = _
      rw [hN, ov_r (e.sub hN)]
    | some o =>
      rw [ov_l hN]
      cases hF : F a with
      | some u =>
        rw [ov_l hF]
        have := e.subF hF
        rw [hN] at this
        exact this
      | none =>
        rw [ov_r hF]
        have h1 : ov F I1 a = ov N I a := by rw [x3]
        rw [ov_l hN, ov_r hF] at h1
        exact (a2 a o h1).symm
theorem em_bor [Sc α] {Γ0 : List Sl} {m0 : Mn Unit α} (w : ∀ s, Wk (Γ s) Γ0) (n : noOw Γ0 = true) (h : EM K te (fun _ : Unit => Γ0) m0) : EM K te Γ (mu m0) := fun s I F N σ e d Q q => by
  have ec := e
  obtain ⟨G, _, _, e0⟩ := ec
  obtain ⟨I1, x1, x2, x3, x4⟩ := bor e0 d (w s) n
  rw [← x3]
  refine h () I1 _ _ σ (EnvG.of x2) x1 Q (R.sat_imp (sat_mu.mp q) fun x _ q v I2 N2 a2 d2 e2 r2 => ?_)
  cases e2.unit.noOw n
  obtain ⟨I3, y1, y2, y3⟩ := x4 I2 a2 d2
  rw [← y3]
  exact q v I3 N y1 y2 (e.up y1) (Sc.eq.mpr (Sc.eq.mp r2))
theorem tm_bor {tt : TT} {Γ0 : List Sl} {m0 : Mn Unit Bool} (w : ∀ s, Wk (Γ s) Γ0) (n : noOw Γ0 = true) (h : TM tt (fun _ : Unit => Γ0) m0) : TM tt Γ (mu m0) := fun s I F N σ e d Q q => by
  have ec := e
  obtain ⟨G, _, _, e0⟩ := ec
  obtain ⟨I1, x1, x2, x3, x4⟩ := bor e0 d (w s) n
  rw [← x3]
  refine h () I1 _ _ σ (EnvG.of x2) x1 Q (R.sat_imp (sat_mu.mp q) fun x _ q I2 N2 a2 d2 e2 => ?_)
  cases e2.unit.noOw n
  obtain ⟨I3, y1, y2, y3⟩ := x4 I2 a2 d2
  rw [← y3]
  exact q I3 N y1 y2 (e.up y1)
theorem ep_bor [Sc α] {Γ1 Γ0 : List Sl} {x : α} (w : Wk Γ1 Γ0) (n : noOw Γ0 = true) (h : EP te Γ0 (pv K x)) : EP te Γ1 (pv K x) := fun I F N σ e d Q q => by
  obtain ⟨F0, e0⟩ := e
  obtain ⟨I1, x1, x2, x3, x4⟩ := bor e0 d w n
  rw [← x3]
  refine h I1 F0 F0 σ x2.x x1 Q fun v I2 a2 d2 r2 => ?_
  obtain ⟨I3, y1, y2, y3⟩ := x4 I2 a2 d2
  rw [← y3]
  exact q v I3 y1 y2 (Sc.eq.mpr (Sc.eq.mp r2))
theorem tp_bor {tt : TT} {Γ1 Γ0 : List Sl} {b : Bool} (w : Wk Γ1 Γ0) (n : noOw Γ0 = true) (h : TP tt Γ0 b) : TP tt Γ1 b := fun I F N σ e d Q q => by
  obtain ⟨F0, e0⟩ := e
  obtain ⟨I1, x1, x2, x3, x4⟩ := bor e0 d w n
  rw [← x3]
  refine h I1 F0 F0 σ x2.x x1 Q fun I2 a2 d2 => ?_
  obtain ⟨I3, y1, y2, y3⟩ := x4 I2 a2 d2
  rw [← y3]
  exact q I3 y1 y2

/-! ### an owned list changes -/
/-- what a slot owns changes in place: j the slot -/
theorem own_upd {S : Type} [SH S] {s : S} {P' : OP} {I F N I' N' : Hp} {Γs : List Sl} {σ : L2.St} {j : Nat} {a : Addr} {vs us : List V} (e : EnvG s I F N σ Γs) (d : Dis N I) {P : OP} (hj : Γs[j]? = some (.ow P)) (hσ : σ[j]? = some (some (.ref a))) (hP : ∀ I a Ma, P.r I a Ma → ∃ vs, Ma = sing a (.lst vs)) (hP' : P'.r I a (sing a (.lst us))) :
    ∃ N', upd (ov N I) a (.lst us) = ov N' I ∧ Dis N' I ∧ EnvG s I F N' σ (Γs.set j (.ow P')) := by
  obtain ⟨a', Ma, M', h1, h2, h3, h4, h5, _⟩ := e.foc hj
  rw [hσ] at h1
  cases h1
  obtain ⟨ws, hw⟩ := hP _ _ _ h2
  subst hw h4
  obtain ⟨y1, y2⟩ := dis_ov_l d
  have z : Dis (sing a (.lst us)) I := dis_sing (y1.some_l sing_same)
  exact ⟨_, upd_own, dis_ov z y2, h5 I P' _ (Ex.refl I) (dis_sing (h3.some_l sing_same)) hP'⟩
theorem own_at {S : Type} [SH S] {s : S} {I F N : Hp} {Γs : List Sl} {σ : L2.St} {j : Nat} (e : EnvG s I F N σ Γs) (hj : Γs[j]? = some (.ow (ol K xs))) : ∃ a vs, σ[j]? = some (some (.ref a)) ∧ N a = some (.lst vs) ∧ Rs K xs I vs := by
  obtain ⟨a, Ma, M', h1, ⟨vs, h2, h3⟩, _, h4, _⟩ := e.foc hj
  exact ⟨a, vs, h1, by rw [h4, h2]; exact ov_l sing_same, h3⟩
theorem ol_sing : ∀ I a Ma, (ol K xs).r I a Ma → ∃ vs, Ma = sing a (.lst vs) := fun I a Ma ⟨vs, h, _⟩ => ⟨vs, h⟩
theorem sz16 {n : Nat} (h : n ≤ 16000000) : n < sizeLine := Nat.lt_of_le_of_lt h (by decide)
theorem sz16' {n : Nat} (h : n ≤ 16000000) : n ≤ sizeLine := Nat.le_of_lt (sz16 h)
def lenOk (n : Nat) : Bool := decide (n ≤ 16000000)
/-- xs.append(e) -/
theorem rp_app {j : Nat} {m : Mn S α} {Γ' : List α → S → List Sl} (hj : ∀ s, (Γ s)[j]? = some (.ow (ol K xs))) (h : EM K te Γ m) (hΓ : ∀ ys s, (Γ s).set j (.ow (ol K ys)) = Γ' ys s) : RP (tDrop (tBM K "list" rAppend (tVar j) (tCons te tNil))) Γ (mb m fun x => mc (lenOk xs.length) (xs ++ [x])) Γ' := fun s I F N σ e d D q => by
  obtain ⟨a, vs, h1, h2, h3⟩ := own_at e (hj s)
  refine ⟨_, h1, .inl ⟨rfl, vs, SqL.of (ov_l h2)⟩, h s I F N σ e d _ (R.sat_imp (sat_mb.mp q) fun x s1 q v I1 N1 a1 d1 e1 r1 => ?_)⟩
  obtain ⟨c, q⟩ := sat_mc.mp q
  have c := of_decide_eq_true c
  obtain ⟨a', us, h1', h2', h3'⟩ := own_at e1 (hj s1)
  rw [h1] at h1'
  cases h1'
  refine ⟨a, us, v, rfl, rfl, ov_l h2', sz16 (by rw [← h3'.length]; exact c), ?_⟩
  obtain ⟨N2, x1, x2, x3⟩ := own_upd (P' := ol K (xs ++ [x])) (us := us ++ [v]) (vs := us) (I' := I1) (N' := N1) e1 d1 (hj s1) h1 ol_sing ⟨_, rfl, h3'.append (.cons r1 .nil)⟩
  rw [x1]
  exact q I1 N2 σ a1 x2 (by rw [← hΓ]; exact x3)
/-- xs[i] = e -/
theorem rp_seti {j : Nat} {m : Mn S α} {mi' : Mn S Int} {Γ' : List α → S → List Sl} (hj : ∀ s, (Γ s)[j]? = some (.ow (ol K xs))) (h : EM K te Γ m) (h2 : EM K tb Γ mi') (hΓ : ∀ ys s, (Γ s).set j (.ow (ol K ys)) = Γ' ys s) : RP (tAsg te (gSub (tVar j) tb rSetL)) Γ (mb m fun x => mb mi' fun i => mo ((ixN xs.length i).map fun k => xs.set k x)) Γ' := fun s I F N σ e d D q =>
  h s I F N σ e d _ (R.sat_imp (sat_mb.mp q) fun x s1 q v I1 N1 a1 d1 e1 r1 => by
    obtain ⟨a, vs, g1, g2, g3⟩ := own_at e1 (hj s1)
    refine ⟨_, g1, h2 s1 I1 F N1 σ e1 d1 _ (R.sat_imp (sat_mb.mp q) fun i s2 q w I2 N2 a2 d2 e2 r2 => ?_)⟩
    obtain ⟨ys, hy, q⟩ := sat_mo.mp q
    obtain ⟨k, hk, rfl⟩ := Option.map_eq_some_iff.mp hy
    obtain ⟨a', us, g1', g2', g3'⟩ := own_at e2 (hj s2)
    rw [g1] at g1'
    cases g1'
    refine ⟨a, us, i, k, rfl, r2, ov_l g2', by rw [← g3'.length]; exact hk, ?_⟩
    obtain ⟨N3, x1, x2, x3⟩ := own_upd (P' := ol K (xs.set k x)) (us := us.set k v) (vs := us) (I' := I2) (N' := N2) e2 d2 (hj s2) g1 ol_sing ⟨_, rfl, All2.set (F := fun x v => Rp.r K x I2 v) (Rp.up a2 r1) k g3'⟩
    rw [x1]
    exact q I2 N3 σ (a1.trans a2) x2 (by rw [← hΓ]; exact x3))
/-- xs.pop(i), the item thrown away -/
theorem rp_popD {j : Nat} {m : Mn S Int} {Γ' : List α → S → List Sl} (hj : ∀ s, (Γ s)[j]? = some (.ow (ol K xs))) (h : EM K te Γ m) (hΓ : ∀ ys s, (Γ s).set j (.ow (ol K ys)) = Γ' ys s) : RP (tDrop (tBM K "list" rPopAt (tVar j) (tCons te tNil))) Γ (mb m fun i => mo (if decide (-(2 ^ 63) ≤ i ∧ i < 2 ^ 63) = true then (ixN xs.length i).map fun k => xs.eraseIdx k else none)) Γ' := fun s I F N σ e d D q => by
  obtain ⟨a, vs, h1, h2, h3⟩ := own_at e (hj s)
  refine ⟨_, h1, .inl ⟨rfl, vs, SqL.of (ov_l h2)⟩, h s I F N σ e d _ (R.sat_imp (sat_mb.mp q) fun i s1 q v I1 N1 a1 d1 e1 r1 => ?_)⟩
  obtain ⟨ys, hy, q⟩ := sat_mo.mp q
  by_cases c : decide (-(2 ^ 63) ≤ i ∧ i < 2 ^ 63) = true
  · rw [if_pos c] at hy
    have c := of_decide_eq_true c
    obtain ⟨k, hk, rfl⟩ := Option.map_eq_some_iff.mp hy
    obtain ⟨a', us, h1', h2', h3'⟩ := own_at e1 (hj s1)
    rw [h1] at h1'
    cases h1'
    rw [h3'.length] at hk
    obtain ⟨k1, k2, _⟩ := ixN_seq hk
    refine ⟨a, us, i, k, us[k], rfl, by rw [show v = V.int i from r1], ov_l h2', c.1, c.2, k1, List.getElem?_eq_getElem k2, ?_⟩
    obtain ⟨N2, x1, x2, x3⟩ := own_upd (P' := ol K (xs.eraseIdx k)) (us := us.eraseIdx k) (vs := us) (I' := I1) (N' := N1) e1 d1 (hj s1) h1 ol_sing ⟨_, rfl, All2.eraseIdx k h3'⟩
    rw [x1]
    exact q I1 N2 σ a1 x2 (by rw [← hΓ]; exact x3)
  · rw [if_neg c] at hy
    cases hy
end

/-! ### built-ins -/
section
variable {S α ζ : Type} [SH S] [Rp α] {Γ1 : List Sl} {Γ : S → List Sl} {te ta tb : TE} {tl : TA} {ps : List PV} {w : PV} {I : Hp}
def Cb (r : List V → Hp → VK → Prop) (ps : List PV) (w : PV) : Prop := ∀ (I N : Hp) (vs : List V) (Q : VK), Dis N I → All2 (fun (p : PV) v => p.r I v) ps vs → (∀ v I', Ex I I' → Dis N I' → w.r I' v → Q v (ov N I')) → r vs (ov N I) Q
theorem ep_cb {r : List V → Hp → VK → Prop} (h : AP tl Γ1 ps) (c : Cb r ps w) : EP (tCB r tl) Γ1 w := fun I F N σ e d Q q => h I F N σ e d _ fun vs I1 a1 d1 r1 => c I1 N vs Q d1 r1 fun v I2 a2 d2 r2 => q v I2 (a1.trans a2) d2 r2
theorem em_cb {r : List V → Hp → VK → Prop} {m : Mn S ζ} {psf : ζ → List PV} {f : ζ → α} (h : AM tl Γ m psf) (c : ∀ z, Cb r (psf z) (pv K (f z))) : EM K (tCB r tl) Γ (mb m fun z => mp (f z)) := fun s I F N σ e d Q q =>
  h s I F N σ e d _ (R.sat_imp (sat_mb.mp q) fun z s1 q vs I1 N1 a1 d1 e1 r1 => c z I1 N1 vs Q d1 r1 fun v I2 a2 d2 r2 => q v I2 N1 (a1.trans a2) d2 (e1.up a2) r2)
theorem em_cbC {r : List V → Hp → VK → Prop} {m : Mn S ζ} {psf : ζ → List PV} {f : ζ → α} {g : ζ → Bool} (h : AM tl Γ m psf) (c : ∀ z, g z = true → Cb r (psf z) (pv K (f z))) : EM K (tCB r tl) Γ (mb m fun z => mc (g z) (f z)) := fun s I F N σ e d Q q =>
  h s I F N σ e d _ (R.sat_imp (sat_mb.mp q) fun z s1 q vs I1 N1 a1 d1 e1 r1 => c z (sat_mc.mp q).1 I1 N1 vs Q d1 r1 fun v I2 a2 d2 r2 => (sat_mc.mp q).2 v I2 N1 (a1.trans a2) d2 (e1.up a2) r2)
/-- one argument -/
theorem cb1 {r : List V → Hp → VK → Prop} {p : PV} (h : ∀ (I N : Hp) (v : V) (Q : VK), Dis N I → p.r I v → (∀ v I', Ex I I' → Dis N I' → w.r I' v → Q v (ov N I')) → r [v] (ov N I) Q) : Cb r [p] w := fun I N vs Q d a q => by
  obtain ⟨v, _, rfl, r1, a⟩ := all2_c a
  cases all2_n a
  exact h I N v Q d r1 q
theorem cb2 {r : List V → Hp → VK → Prop} {p p2 : PV} (h : ∀ (I N : Hp) (v u : V) (Q : VK), Dis N I → p.r I v → p2.r I u → (∀ v I', Ex I I' → Dis N I' → w.r I' v → Q v (ov N I')) → r [v, u] (ov N I) Q) : Cb r [p, p2] w := fun I N vs Q d a q => by
  obtain ⟨v, _, rfl, r1, a⟩ := all2_c a
  obtain ⟨u, _, rfl, r2, a⟩ := all2_c a
  cases all2_n a
  exact h I N v u Q d r1 r2 q
theorem c_abs {i : Int} : Cb (fun xs H Q => ∃ i, xs = [.int i] ∧ Q (.int (if i < 0 then -i else i)) H) [pv K i] (pv K (if i < 0 then -i else i)) := cb1 fun I N v Q d h q => ⟨i, by rw [show v = V.int i from h], q _ I (Ex.refl I) d rfl⟩
theorem c_max2 {i j : Int} : Cb (fun xs H Q => ∃ i j, xs = [.int i, .int j] ∧ Q (.int (if j > i then j else i)) H) [pv K i, pv K j] (pv K (if j > i then j else i)) := cb2 fun I N v u Q d h h2 q => ⟨i, j, by rw [show v = V.int i from h, show u = V.int j from h2], q _ I (Ex.refl I) d rfl⟩
theorem c_min2 {i j : Int} : Cb (fun xs H Q => ∃ i j, xs = [.int i, .int j] ∧ Q (.int (if j < i then j else i)) H) [pv K i, pv K j] (pv K (if j < i then j else i)) := cb2 fun I N v u Q d h h2 q => ⟨i, j, by rw [show v = V.int i from h, show u = V.int j from h2], q _ I (Ex.refl I) d rfl⟩
theorem c_int {i : Int} : Cb (fun xs H Q => (∃ i, xs = [.int i] ∧ Q (.int i) H) ∨ ∃ k, xs = [.bl k] ∧ Q (.int (if k then 1 else 0)) H) [pv K i] (pv K i) := cb1 fun I N v Q d h q => .inl ⟨i, by rw [show v = V.int i from h], q _ I (Ex.refl I) d rfl⟩
theorem c_lenL {xs : List α} : Cb (fun xs H Q => ∃ p ys, xs = [.ref p] ∧ (SqL K H p ys ∨ SqT K H p ys) ∧ Q (.int ys.length) H) [pv K xs] (pv K (xs.length : Int)) := cb1 fun I N v Q d ⟨a, vs, h1, h2, h3⟩ q => ⟨a, vs, by rw [h1], .inl (SqL.of (ex_ov d _ _ h2)), q _ I (Ex.refl I) d (by rw [h3.length]; rfl)⟩
theorem c_lenT {xs : Tu α} : Cb (fun xs H Q => ∃ p ys, xs = [.ref p] ∧ (SqL K H p ys ∨ SqT K H p ys) ∧ Q (.int ys.length) H) [pv K xs] (pv K (xs.l.length : Int)) := cb1 fun I N v Q d ⟨a, vs, h1, h2, h3⟩ q => ⟨a, vs, by rw [h1], .inr (sqt_ov d h2), q _ I (Ex.refl I) d (by rw [h3.length]; rfl)⟩
theorem c_lenS {xs : Scr} : Cb (fun xs H Q => ∃ p ys, xs = [.ref p] ∧ (SqL K H p ys ∨ SqT K H p ys) ∧ Q (.int ys.length) H) [pv K xs] (pv K (xs.l.length : Int)) := cb1 fun I N v Q d ⟨a, h1, h2⟩ q => ⟨a, _, by rw [h1], .inl (sql_ov d h2), q _ I (Ex.refl I) d (by rw [List.length_map]; rfl)⟩
theorem c_sum {xs : List Int} : Cb (rSum K) [pv K xs] (pv K xs.sum) := cb1 fun I N v Q d ⟨a, vs, h1, h2, h3⟩ q => ⟨a, xs, by rw [h1], SqL.of (by rw [← rs_int h3]; exact ex_ov d _ _ h2), q _ I (Ex.refl I) d rfl⟩
theorem c_all {xs : List Bool} : Cb (rAll K) [pv K xs] (pv K (xs.all id)) := cb1 fun I N v Q d ⟨a, vs, h1, h2, h3⟩ q => ⟨a, xs, by rw [h1], SqL.of (by rw [show xs.map V.bl = vs from (rs_sc h3).symm]; exact ex_ov d _ _ h2), q _ I (Ex.refl I) d rfl⟩
theorem c_any {xs : List Bool} : Cb (rAny K) [pv K xs] (pv K (xs.any id)) := cb1 fun I N v Q d ⟨a, vs, h1, h2, h3⟩ q => ⟨a, xs, by rw [h1], SqL.of (by rw [show xs.map V.bl = vs from (rs_sc h3).symm]; exact ex_ov d _ _ h2), q _ I (Ex.refl I) d rfl⟩
/-- ascending -/
def srt (xs : List Int) : List Int := xs.mergeSort fun a b => decide (a ≤ b)
theorem srt_perm (xs : List Int) : (srt xs).Perm xs := List.mergeSort_perm _ _
theorem srt_pw (xs : List Int) : (srt xs).Pairwise (· ≤ ·) := by
  have h := List.pairwise_mergeSort (le := fun a b : Int => decide (a ≤ b)) (fun a b c h1 h2 => by simp at *; omega) (fun a b => by simp; omega) xs
  exact h.imp fun h => by simpa using h
theorem srt_eq {xs ys : List Int} (p : ys.Perm xs) (h : ys.Pairwise (· ≤ ·)) : ys = srt xs :=
  List.Perm.eq_of_pairwise (fun a b _ _ h1 h2 => Int.le_antisymm h1 h2) h (srt_pw xs) (p.trans (srt_perm xs).symm)
theorem c_sorted {xs : List Int} : Cb (rSortedI K) [pv K xs] (pv K (srt xs)) := cb1 fun I N v Q d ⟨a, vs, h1, h2, h3⟩ q => ⟨a, xs, by rw [h1], SqL.of (by rw [← rs_int h3]; exact ex_ov d _ _ h2), fun ns' p hp hs hn => by
  have e := srt_eq hp hs
  subst e
  obtain ⟨x1, x2, x3, x4⟩ := mk_list (K := K) (xs := srt xs) (vs := (srt xs).map V.int) d hn rs_of_int
  rw [x4]
  exact q _ _ x1 x2 x3⟩
/-- a type, as a value -/
def tyPV (n : String) : PV := ⟨fun _ v => v = V.ty n, fun _ h => h⟩
theorem ep_ty {n : String} : EP (tC (.ty n)) Γ1 (tyPV n) := fun I F N σ e d Q q => q _ I (Ex.refl I) d rfl
theorem c_isi {p : PV} {n t : String} {b : Bool} (h : ∀ H v, p.r H v → TyX K H v (.type t)) (e : kitB t n = some b) : Cb (rIsi K) [p, tyPV n] (pv K b) := cb2 fun I N v u Q d h1 h2 q => ⟨v, .ty n, .type t, .type n, b, by rw [show u = V.ty n from h2], .ty n, h _ v (p.up (ex_ov d) h1), kit_ty e, q _ I (Ex.refl I) d rfl⟩
theorem ty_int {i : Int} : ∀ H v, (pv K i).r H v → TyX K H v (.type "int") := fun H v h => by rw [show v = V.int i from h]; exact .base (.int i)
theorem ty_bool {i : Bool} : ∀ H v, (pv K i).r H v → TyX K H v (.type "bool") := fun H v h => by rw [show v = V.bl i from h]; exact .base (.bl i)
theorem ty_list {xs : List α} : ∀ H v, (pv K xs).r H v → TyX K H v (.type "list") := fun H v ⟨a, vs, h1, h2, h3⟩ => by rw [h1]; exact .base (.lst h2)
/-! parts of lists -/
def cutL {α : Type} (xs : List α) (lo hi : Option Int) : List α := (xs.drop (HT.sIx xs.length 0 lo)).take (HT.sIx xs.length xs.length hi - HT.sIx xs.length 0 lo)
theorem rs_cut {xs : List α} {vs : List V} {lo hi : Option Int} (h : Rs K xs I vs) : Rs K (cutL xs lo hi) I (cutV vs lo hi) := by
  unfold cutL cutV
  rw [← h.length]
  exact (h.drop _).take _
def OPa (t : TO) (Γ : List Sl) (o : Option Int) : Prop := ∀ (I F N : Hp) (σ : L2.St), EnvX I N σ Γ → Dis N I → ∀ Q : Option Int → Hp → Prop, (∀ I', Ex I I' → Dis N I' → Q o (ov N I')) → t σ (ov N I) Q
theorem po_no : OPa tNoPart Γ1 none := fun I F N σ e d Q q => q I (Ex.refl I) d
theorem po_i {i : Int} (h : EP te Γ1 (pv K i)) : OPa (tPart te) Γ1 (some i) := fun I F N σ e d Q q => h I F N σ e d _ fun v I1 a1 d1 r1 => ⟨i, r1, q I1 a1 d1⟩
theorem ep_sl {xs : List α} {lo hi : Option Int} {t1 t2 : TO} (h : EP te Γ1 (pv K xs)) (h1 : OPa t1 Γ1 lo) (h2 : OPa t2 Γ1 hi) : EP (tSl (rSlL K) te t1 t2) Γ1 (pv K (cutL xs lo hi)) := fun I F N σ e d Q q =>
  h I F N σ e d _ fun v I1 a1 d1 r1 => h1 I1 F N σ (e.up a1) d1 _ fun I2 a2 d2 => h2 I2 F N σ (e.up (a1.trans a2)) d2 _ fun I3 a3 d3 => by
    obtain ⟨a, vs, g1, g2, g3⟩ := Rp.up (a2.trans a3) r1
    refine ⟨a, vs, g1, SqL.of (ex_ov d3 _ _ g2), fun p hp => ?_⟩
    obtain ⟨x1, x2, x3, x4⟩ := mk_list d3 hp (rs_cut g3)
    rw [x4]
    exact q _ _ (((a1.trans a2).trans a3).trans x1) x2 x3
theorem ep_slS {xs : Scr} {lo hi : Option Int} {t1 t2 : TO} (h : EP te Γ1 (pv K xs)) (h1 : OPa t1 Γ1 lo) (h2 : OPa t2 Γ1 hi) : EP (tSl (rSlL K) te t1 t2) Γ1 (pv K (cutL xs.l lo hi)) := fun I F N σ e d Q q =>
  h I F N σ e d _ fun v I1 a1 d1 r1 => h1 I1 F N σ (e.up a1) d1 _ fun I2 a2 d2 => h2 I2 F N σ (e.up (a1.trans a2)) d2 _ fun I3 a3 d3 => by
    obtain ⟨a, g1, g2⟩ := Rp.up (a2.trans a3) r1
    refine ⟨a, _, g1, sql_ov d3 g2, fun p hp => ?_⟩
    obtain ⟨x1, x2, x3, x4⟩ := mk_list d3 hp (rs_cut (lo := lo) (hi := hi) (rs_of_int (K := K) (H := I3)))
    rw [x4]
    exact q _ _ (((a1.trans a2).trans a3).trans x1) x2 x3
/-- an item of the script -/
theorem o_ixS {xs : Scr} {i x : Int} (e : atI xs.l i = some x) : Op2 (rIxL K) (pv K xs) (pv K i) (pv K x) := fun I N u v Q d ⟨a, h1, h2⟩ hy k => by
  obtain ⟨w, q1, q2⟩ := rs_at (rs_of_int (K := K) (H := I)) e
  exact ⟨a, _, i, w, h1, hy, sql_ov d h2, q1, k w I (Ex.refl I) d q2⟩
theorem em_ixSp {xs : Scr} {i : Int} (ha : ∀ s, EP ta (Γ s) (pv K xs)) (hb : ∀ s, EP tb (Γ s) (pv K i)) : EM K (tOp (rIxL K) ta tb) Γ (mo (atI xs.l i)) := fun s I F N σ e d Q q => by
  obtain ⟨z, hz, q⟩ := sat_mo.mp q
  exact ep_op (ha s) (hb s) (o_ixS hz) I F N σ e d Q fun v I3 a3 d3 r3 => q v I3 N a3 d3 (e.up a3) r3
/-- x in xs, of written values -/
class Fl (α : Type) [Rp α] [Sc α] where
  fl : ∀ x : α, flatV (Sc.s x) = true
  eq : ∀ x y : α, eqV (Sc.s x) (Sc.s y) = true ↔ x = y
instance flInt : Fl Int := ⟨fun _ => rfl, fun x y => by simp [Sc.s, eqV]⟩
instance flStr : Fl Str := ⟨fun _ => rfl, fun x y => by simp [Sc.s, eqV]⟩
instance flBool : Fl Bool := ⟨fun _ => rfl, fun x y => by simp [Sc.s, eqV]⟩
theorem in_fl {β : Type} [Rp β] [Sc β] [Fl β] [DecidableEq β] (x : β) : ∀ xs : List β, inV (Sc.s x) (xs.map Sc.s) = decide (x ∈ xs)
  | [] => by simp [inV]
  | y :: ys => by
    have ih := in_fl x ys
    unfold inV at ih ⊢
    rw [List.map_cons, List.any_cons, ih]
    by_cases h : y = x
    · rw [(Fl.eq y x).mpr h]; simp [h]
    · have h1 : eqV (Sc.s y) (Sc.s x) = false := by
        cases q : eqV (Sc.s y) (Sc.s x) with
        | false => rfl
        | true => exact absurd ((Fl.eq y x).mp q) h
      rw [h1]
      have h2 : ¬ x = y := fun q => h q.symm
      simp [h2]
theorem all_fl {β : Type} [Rp β] [Sc β] [Fl β] : ∀ xs : List β, (xs.map (Sc.s (α := β))).all flatV = true
  | [] => rfl
  | y :: ys => by rw [List.map_cons, List.all_cons, Fl.fl, all_fl ys]; rfl
theorem o_in {β : Type} [Rp β] [Sc β] [Fl β] [DecidableEq β] {x : β} {xs : List β} : Op2 (rIn K false) (pv K x) (pv K xs) (pv K (decide (x ∈ xs))) := fun I N u v Q d hx ⟨a, vs, h1, h2, h3⟩ q => by
  cases Sc.eq.mp hx
  have e := rs_sc h3
  subst e
  refine ⟨a, _, h1, .inl (SqL.of (ex_ov d _ _ h2)), Fl.fl x, all_fl xs, ?_⟩
  rw [if_neg Bool.false_ne_true, in_fl]
  exact q _ I (Ex.refl I) d rfl
theorem o_notIn {β : Type} [Rp β] [Sc β] [Fl β] [DecidableEq β] {x : β} {xs : List β} : Op2 (rIn K true) (pv K x) (pv K xs) (pv K (!decide (x ∈ xs))) := fun I N u v Q d hx ⟨a, vs, h1, h2, h3⟩ q => by
  cases Sc.eq.mp hx
  have e := rs_sc h3
  subst e
  refine ⟨a, _, h1, .inl (SqL.of (ex_ov d _ _ h2)), Fl.fl x, all_fl xs, ?_⟩
  rw [if_pos rfl, in_fl]
  exact q _ I (Ex.refl I) d rfl
theorem o_inT {β : Type} [Rp β] [Sc β] [Fl β] [DecidableEq β] {x : β} {xs : Tu β} : Op2 (rIn K false) (pv K x) (pv K xs) (pv K (decide (x ∈ xs.l))) := fun I N u v Q d hx ⟨a, vs, h1, h2, h3⟩ q => by
  cases Sc.eq.mp hx
  have e := rs_sc h3
  subst e
  refine ⟨a, _, h1, .inr (sqt_ov d h2), Fl.fl x, all_fl xs.l, ?_⟩
  rw [if_neg Bool.false_ne_true, in_fl]
  exact q _ I (Ex.refl I) d rfl
theorem o_notInT {β : Type} [Rp β] [Sc β] [Fl β] [DecidableEq β] {x : β} {xs : Tu β} : Op2 (rIn K true) (pv K x) (pv K xs) (pv K (!decide (x ∈ xs.l))) := fun I N u v Q d hx ⟨a, vs, h1, h2, h3⟩ q => by
  cases Sc.eq.mp hx
  have e := rs_sc h3
  subst e
  refine ⟨a, _, h1, .inr (sqt_ov d h2), Fl.fl x, all_fl xs.l, ?_⟩
  rw [if_pos rfl, in_fl]
  exact q _ I (Ex.refl I) d rfl
/-! lists from lists -/
def repOk (n : Nat) (k : Int) : Bool := decide (-(2 ^ 63) ≤ k ∧ k < 2 ^ 63 ∧ n * k.toNat ≤ 16000000)
def repL {α : Type} (xs : List α) (k : Int) : List α := (List.replicate k.toNat xs).flatten
theorem rs_flat {xs : List α} {vs : List V} (h : Rs K xs I vs) : ∀ n : Nat, Rs K (List.replicate n xs).flatten I (List.replicate n vs).flatten
  | 0 => .nil
  | n + 1 => by
    rw [List.replicate_succ, List.replicate_succ, List.flatten_cons, List.flatten_cons]
    exact h.append (rs_flat h n)
theorem eo_rep {xs : List α} {k : Int} (ha : ∀ s, EP ta (Γ s) (pv K xs)) (hb : ∀ s, EP tb (Γ s) (pv K k)) : EO (tOp rRep ta tb) Γ (mc (repOk xs.length k) (repL xs k)) (rOw (ol K)) := fun s I F N σ e d Q q => by
  obtain ⟨c, q⟩ := sat_mc.mp q
  have c := of_decide_eq_true c
  refine ha s I F N σ e d _ fun v I1 a1 d1 r1 => hb s I1 F N σ (e.up a1) d1 _ fun w I2 a2 d2 r2 => ?_
  obtain ⟨a, vs, g1, g2, g3⟩ := Rp.up a2 r1
  exact ⟨a, k, vs, g1, r2, ex_ov d2 _ _ g2, c.1, c.2.1, by rw [← g3.length]; exact sz16' c.2.2, fun p hp => q _ _ I2 N (a1.trans a2) (e.up (a1.trans a2)) (new_list d2 hp (rs_flat g3 _))⟩
theorem o_cat {xs ys : List α} (c : lenOk (xs.length + ys.length) = true) : Op2 rCat (pv K xs) (pv K ys) (pv K (xs ++ ys)) := fun I N u v Q d ⟨a, vs, h1, h2, h3⟩ ⟨b, us, g1, g2, g3⟩ q => ⟨a, b, vs, us, h1, g1, ex_ov d _ _ h2, ex_ov d _ _ g2, by rw [← h3.length, ← g3.length]; exact sz16' (of_decide_eq_true c), fun p hp => by
  obtain ⟨x1, x2, x3, x4⟩ := mk_list d hp (h3.append g3)
  rw [x4]
  exact q _ _ x1 x2 x3⟩
/-- list(xs) -/
def rListOf (K : PySem.W.Frag) : List V → Hp → VK → Prop := fun xs H Q => ∃ p ys, xs = [.ref p] ∧ (SqL K H p ys ∨ SqT K H p ys) ∧ ∀ l, H l = none → Q (.ref l) (upd H l (.lst ys))
theorem eo_listL {xs : List α} (h : ∀ s, AP tl (Γ s) [pv K xs]) : EO (tCB (rListOf K) tl) Γ (mp xs) (rOw (ol K)) := fun s I F N σ e d Q q => h s I F N σ e d _ fun vs I1 a1 d1 r1 => by
  obtain ⟨v, _, rfl, r, r1⟩ := all2_c r1
  cases all2_n r1
  obtain ⟨a, us, g1, g2, g3⟩ := r
  exact ⟨a, us, by rw [g1], .inl (SqL.of (ex_ov d1 _ _ g2)), fun p hp => q _ _ I1 N a1 (e.up a1) (new_list d1 hp g3)⟩
theorem eo_listT {xs : Tu α} (h : ∀ s, AP tl (Γ s) [pv K xs]) : EO (tCB (rListOf K) tl) Γ (mp xs.l) (rOw (ol K)) := fun s I F N σ e d Q q => h s I F N σ e d _ fun vs I1 a1 d1 r1 => by
  obtain ⟨v, _, rfl, r, r1⟩ := all2_c r1
  cases all2_n r1
  obtain ⟨a, us, g1, g2, g3⟩ := r
  exact ⟨a, us, by rw [g1], .inr (sqt_ov d1 g2), fun p hp => q _ _ I1 N a1 (e.up a1) (new_list d1 hp g3)⟩
/-- list(range(n)), list(range(a, b)) -/
def rgOk (a b : Int) : Bool := decide (-(2 ^ 62) ≤ a ∧ a < 2 ^ 62 ∧ -(2 ^ 62) ≤ b ∧ b < 2 ^ 62 ∧ (b - a).toNat ≤ 2 ^ 24)
theorem rgV_eq {a b : Int} : rgV a b = (rng a (b - a).toNat).map V.int := by
  unfold rgV rng
  rw [List.map_map]
  rfl
theorem eo_listRg1 {n : Int} (h : ∀ s, EP te (Γ s) (pv K n)) : EO (tLstRg (tRg1 te)) Γ (mc (rgOk 0 n) (rng 0 n.toNat)) (rOw (ol K)) := fun s I F N σ e d Q q => by
  obtain ⟨c, q⟩ := sat_mc.mp q
  have c := of_decide_eq_true c
  refine h s I F N σ e d _ fun v I1 a1 d1 r1 => ⟨n, r1, c, fun p hp => q _ _ I1 N a1 (e.up a1) (new_list d1 hp ?_)⟩
  rw [rgV_eq, Int.sub_zero]
  exact rs_of_int
end
/-! ### calls by names alone -/
section
variable {X : Cx} {CX : CXT} {k : Nat} {f : Addr} {fd : FuncData} {ps ks : List Str} {sp : Sp} {E : XK} {x : Str} {p pos : Pos} {kws : List Keyword} {tk : TA} {g : List Value → List Value → List Value} {gV : List V → List V → List V}
theorem pe_callK0 (F : FnOk X.prog X.w X.K X.mg X.base CX k f fd ps sp) (hr : Room k X.A) (hg : Gl X x) (hm : X.mg x = some (.ref f)) (hk : PySem.W.keepIn X.K (.ref f) = true) (hb : KBinds X.K fd ps ks g gV) (hx : Passes CX X E)
    (hkw : PK X kws tk) (hall : (backToKw pos (keywordEach kws X.env)).all (·.1.isSome) = true := by rfl) (hks : (backToKw pos (keywordEach kws X.env)).filterMap (·.1) = ks := by rfl)
    (hdb : (x == ("__debug__" : Str)) = false := by decide) (hpl : ((backTo pos (starEach [] X.env)).any (·.1) || (backToKw pos (keywordEach kws X.env)).any (·.1.isNone)) = false := by rfl) :
    PE X (.Call (.Name x p) [] kws pos) (tCallK sp gV E tNil tk) := by
  refine ⟨fun pins s σ H Q I h => ?_⟩
  refine wpAny_Call_Name_kw (ld_glob I hg hm ?_ hdb)
  refine PySem.W.callWith_KW0 (h₀ := X.base) I.ok.mod.kin hk hall ?_ hpl
  refine thn (hkw.run pos pins s σ H _ I h) fun ws s2 ⟨zs, H2, I2, rz, q2⟩ => ⟨I2.kIn, ?_⟩
  rw [hks]
  exact run_fnk (us := []) (vs := []) F hr hb hx I2 .nil rz q2
end
end
end Mir

/-! Mir7: several targets; the law's box; calls in the same state; promises packed -/
namespace Mir
open PySem L2
section
variable {K : PySem.W.Frag}
theorem EnvG.subF {S : Type} [SH S] {s : S} {I F N : Hp} {σ : L2.St} {Γ : List Sl} (h : EnvG s I F N σ Γ) {a : Addr} {o : HO} (q : F a = some o) : N a = some o := let ⟨_, _, h2, e⟩ := h; e.subF (by rw [ov_r (h2.some_r q)]; exact q)
/-! ### several targets -/
def AO {S ζ : Type} [SH S] (ta : TA) (Γ : S → List Sl) (m : Mn S ζ) (cs : ζ → List Sl) : Prop := ∀ (s : S) (I F N : Hp) (σ : L2.St), EnvG s I F N σ (Γ s) → Dis N I → ∀ Q : List V → Hp → Prop,
  (m s).sat (fun z s' => ∀ vs I' N' M', Ex I I' → EnvG s' I' F N' σ (Γ s') → Dis M' I' → EnvOk I' N' M' (vs.map some) (cs z) → Q vs (ov M' I')) → ta σ (ov N I) Q
section
variable {S ζ ρ α : Type} [SH S] [Rp α] {Γ : S → List Sl} {te : TE} {ta : TA}
theorem ao_nil : AO tNil Γ (mp ()) fun _ => [] := fun s I F N σ e d Q q => q [] I N N (Ex.refl I) e d .nil
theorem ao_p {p : PV} {m : Mn S ζ} {cs : ζ → List Sl} (h : ∀ s, EP te (Γ s) p) (t : AO ta Γ m cs) : AO (tCons te ta) Γ m fun z => .im p :: cs z := fun s I F N σ e d Q q =>
  h s I F N σ e d _ fun v I1 a1 d1 r1 => t s I1 F N σ (e.up a1) d1 _ (R.sat_imp q fun z s2 q vs I2 N2 M2 a2 e2 d2 e3 => q _ I2 N2 M2 (a1.trans a2) e2 d2 (.im (p.up a2 r1) e3))
theorem ao_m {m1 : Mn S α} {m : Mn S ζ} {cs : ζ → List Sl} (h : EM K te Γ m1) (t : AO ta Γ m cs) : AO (tCons te ta) Γ (mb m1 fun x => mb m fun z => mp (x, z)) fun y => .im (pv K y.1) :: cs y.2 := fun s I F N σ e d Q q =>
  h s I F N σ e d _ (R.sat_imp (sat_mb.mp q) fun x s1 q v I1 N1 a1 d1 e1 r1 => t s1 I1 F N1 σ e1 d1 _ (R.sat_imp (sat_mb.mp q) fun z s2 q vs I2 N2 M2 a2 e2 d2 e3 => q _ I2 N2 M2 (a1.trans a2) e2 d2 (.im (p := pv K x) (Rp.up a2 r1) e3)))
theorem ao_o {m1 : Mn S ρ} {m : Mn S ζ} {P : ρ → OP} {cs : ζ → List Sl} (h : EO te Γ m1 (rOw P)) (t : AO ta Γ m cs) : AO (tCons te ta) Γ (mb m1 fun x => mb m fun z => mp (x, z)) fun y => .ow (P y.1) :: cs y.2 := fun s I F N σ e d Q q =>
  h s I F N σ e d _ (R.sat_imp (sat_mb.mp q) fun x s1 q v H1 I1 N1 a1 e1 ⟨a, Ma, h1, h2, h3, h4, h5⟩ => by
    subst h1 h4
    have hF : Dis Ma F := fun b => by
      cases q : F b with
      | none => exact .inr rfl
      | some o => exact .inl (h2.some_r (e1.subF q))
    refine t s1 I1 (ov Ma F) (ov Ma N1) σ (e1.frame h2) h3 _ (R.sat_imp (sat_mb.mp q) fun z s2 q vs I2 N2 M2 a2 e2 d2 e3 => ?_)
    obtain ⟨N3, g1, g2, g3⟩ := e2.unframe hF
    subst g1
    obtain ⟨M3, g4, g5, g6⟩ := e3.unframe g2
    subst g4
    exact q _ I2 N3 _ (a1.trans a2) g3 d2 (.ow ((P x).up a2 h5) g5 g6))
end
theorem notOw_set {Γ : List Sl} {i j : Nat} {a : Sl} (h : NotOw Γ j) (n : i ≠ j) : NotOw (Γ.set i a) j := by
  unfold NotOw
  rw [List.getElem?_set_ne n]
  exact h
theorem dis_sub {I N M1 Ma : Hp} {σ : L2.St} {Γ : List Sl} (d : Dis Ma M1) (e : EnvOk I N M1 σ Γ) : Dis Ma N := fun b => by
  cases q : N b with
  | none => exact .inr rfl
  | some o => exact .inl (d.some_r (e.subF q))
/-- slots take values and owned parts, one behind another -/
def setG : List Sl → List Nat → List Sl → List Sl
  | Γ, j :: js, c :: cs => setG (Γ.set j c) js cs
  | Γ, _, _ => Γ
def setS : L2.St → List Nat → List V → L2.St
  | σ, j :: js, v :: vs => setS (σ.set j (some v)) js vs
  | σ, _, _ => σ
theorem EnvOk.takes {I F : Hp} : ∀ {js : List Nat} {vs : List V} {cs : List Sl} {N M : Hp} {σ : L2.St} {Γ : List Sl}, EnvOk I F N σ Γ → EnvOk I N M (vs.map some) cs → js.length = cs.length → js.Nodup → (∀ j ∈ js, NotOw Γ j ∧ j < Γ.length) → (∀ c ∈ cs, c ≠ .no) → EnvOk I F M (setS σ js vs) (setG Γ js cs)
  | [], vs, [], N, M, σ, Γ, e, e2, _, _, _, _ => by
    cases vs with
    | nil => cases e2; exact e
    | cons v vs => cases e2
  | [], _, _ :: _, _, _, _, _, _, _, h, _, _, _ => by simp at h
  | _ :: _, _, [], _, _, _, _, _, _, h, _, _, _ => by simp at h
  | j :: js, [], c :: cs, _, _, _, _, _, e2, _, _, _, _ => by cases e2
  | j :: js, v :: vs, c :: cs, N, M, σ, Γ, e, e2, hl, hd, hn, hc => by
    have e3 : EnvOk I N M (some v :: vs.map some) (c :: cs) := e2
    obtain ⟨n1, n2⟩ := List.nodup_cons.mp hd
    have hj := hn j (List.mem_cons_self ..)
    have rest : ∀ a : Sl, ∀ i ∈ js, NotOw (Γ.set j a) i ∧ i < (Γ.set j a).length := fun a i hi => ⟨notOw_set (hn i (List.mem_cons_of_mem _ hi)).1 (fun q => n1 (q ▸ hi)), by rw [List.length_set]; exact (hn i (List.mem_cons_of_mem _ hi)).2⟩
    show EnvOk I F M (setS (σ.set j (some v)) js vs) (setG (Γ.set j c) js cs)
    cases e3 with
    | no _ e4 => exact absurd rfl (hc .no (List.mem_cons_self ..))
    | im q e4 => exact EnvOk.takes (e.set q hj.1) e4 (by simpa using hl) n2 (rest _) fun c hc' => hc c (List.mem_cons_of_mem _ hc')
    | ow q d e4 =>
      exact EnvOk.takes (e.take q hj.1 hj.2 (dis_sub d e4)) (e4.frame d) (by simpa using hl) n2 (rest _) fun c hc' => hc c (List.mem_cons_of_mem _ hc')
theorem EnvG.takes {S : Type} [SH S] {s : S} {I F N M : Hp} {σ : L2.St} {Γ cs : List Sl} {js : List Nat} {vs : List V} (h : EnvG s I F N σ Γ) (e2 : EnvOk I N M (vs.map some) cs) (hl : js.length = cs.length) (hd : js.Nodup) (hn : ∀ j ∈ js, NotOw Γ j ∧ j < Γ.length) (hc : ∀ c ∈ cs, c ≠ .no) : EnvG s I F M (setS σ js vs) (setG Γ js cs) := let ⟨G, h1, h2, e⟩ := h; ⟨G, h1, h2, EnvOk.takes e e2 hl hd hn hc⟩
def gNames (js : List Nat) : TGs := js.foldr (fun j t => gCons (gName j) t) gNil
theorem gNames_ok : ∀ (js : List Nat) (vs : List V) (σ : L2.St) (H : Hp) (Q : L2.St → Hp → Prop), vs.length = js.length → Q (setS σ js vs) H → gNames js vs σ H Q
  | [], [], σ, H, Q, _, q => ⟨rfl, q⟩
  | [], _ :: _, _, _, _, h, _ => by simp at h
  | _ :: _, [], _, _, _, h, _ => by simp at h
  | j :: js, v :: vs, σ, H, Q, h, q => ⟨v, vs, rfl, gNames_ok js vs (σ.set j (some v)) H Q (by simpa using h) q⟩
def isNo : Sl → Bool
  | .no => true
  | _ => false
def asgOk (Γ : List Sl) (js : List Nat) (n : Nat) : Prop := js.length = n ∧ js.Nodup ∧ ∀ j ∈ js, NotOw Γ j ∧ j < Γ.length
theorem nos_of {cs : List Sl} (h : cs.all (fun c => !isNo c) = true) : ∀ c ∈ cs, c ≠ .no := fun c hc q => by
  have := List.all_eq_true.mp h c hc
  rw [q] at this
  cases this
section
variable {S ζ : Type} [SH S] {Γ : S → List Sl} {ta : TA} {m : Mn S ζ} {cs : ζ → List Sl} {Γ' : ζ → S → List Sl}
/-- a, b, .. = e1, e2, .. by a tuple -/
theorem rp_asgT {n : Nat} (js : List Nat) (h : AO ta Γ m cs) (hj : ∀ s, asgOk (Γ s) js n) (hc : ∀ z, (cs z).length = n) (hn : ∀ z, (cs z).all (fun c => !isNo c) = true) (h9 : n ≤ 1000) (hΓ : ∀ z s, setG (Γ s) js (cs z) = Γ' z s) : RP (tAsg (tTup ta) (gTup K n (gNames js))) Γ m Γ' := fun s I F N σ e d D q =>
  h s I F N σ e d _ (R.sat_imp q fun z s1 q vs I1 N1 M1 a1 e1 d1 e2 => by
    have hv : vs.length = n := by
      have l := e2.len
      rw [List.length_map, hc z] at l
      exact l
    refine ⟨by rw [hv]; exact sz2 h9, fun p hp => ?_⟩
    obtain ⟨x1, x2, x3, x4⟩ := mk_tup (K := K) (vs := vs) d1 hp
    refine ⟨p, vs, rfl, ?_, hv, gNames_ok js vs σ _ _ (hv.trans (hj s1).1.symm) ?_⟩
    · rw [x4]; exact sqt_ov x2 x3
    · rw [x4]
      refine q _ M1 _ (a1.trans x1) x2 ?_
      rw [← hΓ]
      exact EnvG.takes (e1.up x1) (e2.up x1) ((hj s1).1.trans (hc z).symm) (hj s1).2.1 (hj s1).2.2 (nos_of (hn z)))
/-- .. two local names: no tuple is made -/
theorem rp_asg2 {i j : Nat} (h : AO ta Γ m cs) (hj : ∀ s, asgOk (Γ s) [i, j] 2) (hc : ∀ z, (cs z).length = 2) (hn : ∀ z, (cs z).all (fun c => !isNo c) = true) (hΓ : ∀ z s, setG (Γ s) [i, j] (cs z) = Γ' z s) : RP (tPar i j ta) Γ m Γ' := fun s I F N σ e d D q =>
  h s I F N σ e d _ (R.sat_imp q fun z s1 q vs I1 N1 M1 a1 e1 d1 e2 => by
    have hv : vs.length = 2 := by
      have l := e2.len
      rw [List.length_map, hc z] at l
      exact l
    match vs, hv, e2 with
    | [v, w], _, e2 =>
      refine ⟨v, w, rfl, q I1 M1 _ a1 d1 ?_⟩
      rw [← hΓ]
      exact EnvG.takes (js := [i, j]) (vs := [v, w]) e1 e2 ((hj s1).1.trans (hc z).symm) (hj s1).2.1 (hj s1).2.2 (nos_of (hn z)))
theorem rp_asg3 {i j k : Nat} (h : AO ta Γ m cs) (hj : ∀ s, asgOk (Γ s) [i, j, k] 3) (hc : ∀ z, (cs z).length = 3) (hn : ∀ z, (cs z).all (fun c => !isNo c) = true) (hΓ : ∀ z s, setG (Γ s) [i, j, k] (cs z) = Γ' z s) : RP (tPar3 i j k ta) Γ m Γ' := fun s I F N σ e d D q =>
  h s I F N σ e d _ (R.sat_imp q fun z s1 q vs I1 N1 M1 a1 e1 d1 e2 => by
    have hv : vs.length = 3 := by
      have l := e2.len
      rw [List.length_map, hc z] at l
      exact l
    match vs, hv, e2 with
    | [v, w, u], _, e2 =>
      refine ⟨v, w, u, rfl, q I1 M1 _ a1 d1 ?_⟩
      rw [← hΓ]
      exact EnvG.takes (js := [i, j, k]) (vs := [v, w, u]) e1 e2 ((hj s1).1.trans (hc z).symm) (hj s1).2.1 (hj s1).2.2 (nos_of (hn z)))
end

/-! ### a def and its promise, packed -/
structure Cal (P : Program) (w : World) (K : PySem.W.Frag) (mg : Str → Option Value) (base : Heap) (k : Nat) (x : Str) (ps : List Str) (sp : Sp) : Prop where
  ex : ∃ (f : Addr) (fd : FuncData), FnOk P w K mg base CX0 k f fd ps sp ∧ mg x = some (.ref f) ∧ PySem.W.keepIn K (.ref f) = true ∧ Binds K fd ps []
/-- .. called by names alone -/
structure CalK (P : Program) (w : World) (K : PySem.W.Frag) (mg : Str → Option Value) (base : Heap) (k : Nat) (x : Str) (ps : List Str) (sp : Sp) (ks : List Str) (g : List Value → List Value → List Value) (gV : List V → List V → List V) : Prop where
  ex : ∃ (f : Addr) (fd : FuncData), FnOk P w K mg base CX0 k f fd ps sp ∧ mg x = some (.ref f) ∧ PySem.W.keepIn K (.ref f) = true ∧ KBinds K fd ps ks g gV

end
end Mir

/-! Mir8: the box's items; what the printer wants besides -/
namespace Mir
open PySem L2
section
variable {K : PySem.W.Frag}
/-! ### checked, in the state -/
def mcs {S α : Type} (c : S → Bool) (f : S → α) : Mn S α := fun s => match c s with
  | true => .ok (f s) s
  | false => .bad
theorem sat_mcs {S α : Type} {c : S → Bool} {f : S → α} {s : S} {Q : α → S → Prop} : (mcs c f s).sat Q ↔ c s = true ∧ Q (f s) s := by
  unfold mcs
  cases c s with
  | true => exact ⟨fun h => ⟨rfl, h⟩, fun h => h.2⟩
  | false => exact ⟨fun h => h.elim, fun h => nomatch h.1⟩
section
variable {S α β γ : Type} [SH S] [Rp α] [Rp β] [Rp γ] {ta tb te : TE} {Γ Γr : S → List Sl} {r : R2}
theorem em_opC2s {x : S → α} {y : S → β} {z : S → γ} {c : S → Bool} (ha : ∀ s, EP ta (Γ s) (pv K (x s))) (hb : ∀ s, EP tb (Γ s) (pv K (y s))) (h : ∀ s, c s = true → Op2 r (pv K (x s)) (pv K (y s)) (pv K (z s))) : EM K (tOp r ta tb) Γ (mcs c z) := fun s I F M σ e d Q q =>
  ep_op (ha s) (hb s) (h s (sat_mcs.mp q).1) I F M σ e d Q fun v I3 a3 d3 r3 => (sat_mcs.mp q).2 v I3 M a3 d3 (e.up a3) r3
/-- x op= e -/
theorem rp_aug {i : Nat} {f : Int → Int → Int} {x : Int} {m : Mn S Int} {Γ' : Int → S → List Sl} (hi : ∀ s, (Γ s)[i]? = some (.im (pv K x))) (h : EM K te Γ m) (hn : ∀ s, NotOw (Γ s) i) (hΓ : ∀ y s, (Γ s).set i (.im (pv K y)) = Γ' y s) : RP (tAug i te (ipI f)) Γ (mb m fun y => mp (f x y)) Γ' := fun s I F N σ e d D q => by
  obtain ⟨v, h1, h2⟩ := e.get (hi s)
  refine ⟨v, h1, h s I F N σ e d _ (R.sat_imp (sat_mb.mp q) fun y s1 q w I1 N1 a1 d1 e1 r1 => ⟨x, y, h2, r1, q I1 N1 _ a1 d1 ?_⟩)⟩
  rw [← hΓ]
  exact e1.set (p := pv K (f x y)) rfl (hn s1)
/-- an Optional value where a value is asked for -/
theorem em_unopt {o : Option α} (h : ∀ s, EP te (Γ s) (pv K o)) : EM K te Γ (mo o) := fun s I F N σ e d Q q => h s I F N σ e d Q fun v I1 a1 d1 r1 => by
  obtain ⟨a, ha, q⟩ := sat_mo.mp q
  subst ha
  exact q v I1 N a1 d1 (e.up a1) r1.1
theorem nn_int {i : Int} : ∀ H v, Rp.r K i H v → v ≠ .non := fun H v h q => by
  rw [show v = V.int i from h] at q
  cases q
theorem em_some {m : Mn S α} (hn : ∀ (x : α) H v, Rp.r K x H v → v ≠ .non) (h : EM K te Γ m) : EM K te Γ (mb m fun x => mp (some x)) := fun s I F N σ e d Q q =>
  h s I F N σ e d Q (R.sat_imp (sat_mb.mp q) fun x s1 q v I1 N1 a1 d1 e1 r1 => q v I1 N1 a1 d1 e1 ⟨r1, hn x _ _ r1⟩)
theorem o_isNopt {x : Option α} : Op2 (fun x y H Q => y = .non ∧ Q (.bl (decide (x = .non))) H) (pv K x) (pv K ()) (pv K x.isNone) := o_isN _ isN_opt
theorem o_notNopt {x : Option α} : Op2 (fun x y H Q => y = .non ∧ Q (.bl (!decide (x = .non))) H) (pv K x) (pv K ()) (pv K (!x.isNone)) := fun I M u v Q d hx hy k => by
  refine ⟨hy, ?_⟩
  rw [isN_opt (K := K) _ _ hx]
  exact k _ I (Ex.refl I) d rfl
end
def popAt {α : Type} (xs : List α) (i : Int) : Option (List α) := if decide (-(2 ^ 63) ≤ i ∧ i < 2 ^ 63) = true then (ixN xs.length i).map fun k => xs.eraseIdx k else none
def asgB (Γ : List Sl) (js : List Nat) (n : Nat) : Bool := js.length == n && decide js.Nodup && js.all fun j => !((Γ[j]?.map isOw).getD false) && Nat.blt j Γ.length
theorem asg_ok {Γ : List Sl} {js : List Nat} {n : Nat} (h : asgB Γ js n = true) : asgOk Γ js n := by
  unfold asgB at h
  rw [Bool.and_eq_true, Bool.and_eq_true] at h
  obtain ⟨⟨h1, h2⟩, h3⟩ := h
  refine ⟨by simpa using h1, of_decide_eq_true h2, fun j hj => ?_⟩
  have h4 := List.all_eq_true.mp h3 j hj
  rw [Bool.and_eq_true] at h4
  refine ⟨?_, Nat.blt_eq.mp h4.2⟩
  unfold NotOw
  simpa using h4.1
/-! ### ways out, inside a loop's body -/
section
variable {S ρ τ τ' β α : Type} [SH S] {Ret : RetT ρ} {t t1 t2 : TS} {Γ Γr Γ1 : S → List Sl} {Γ' : τ → S → List Sl} {Γt : τ' → S → List Sl} {Γb : β → S → List Sl} {Γe : Empty → S → List Sl}
theorem rc_pre {m : Mn S (Ct ρ τ β)} (w : ∀ s, Wk (Γ s) (Γ1 s)) (h : RC Ret t Γ1 m Γr Γ' Γb) : RC Ret t Γ m Γr Γ' Γb := fun s I F N σ e d D q => by
  obtain ⟨I1, N1, x1, x2, x3, x4⟩ := e.wk (w s) d
  rw [← x3]
  exact h s I1 F N1 σ x4 x2 D (R.sat_imp q fun c s' q => ctup x1 q)
def ctb {S ρ τ τ' β : Type} (k : τ' → Mn S (Ct ρ τ β)) : Ct ρ τ' Empty → Mn S (Ct ρ τ β)
  | .rt x => mp (.rt x)
  | .nx x => k x
  | .br x => nomatch x
theorem rc_seqC {m1 : Mn S (Ct ρ τ' Empty)} {m2 : τ' → Mn S (Ct ρ τ β)} (h1 : RC Ret t1 Γ m1 Γr Γt Γe) (h2 : ∀ x, RC Ret t2 (Γt x) (m2 x) Γr Γ' Γb) : RC Ret (tSeq t1 t2) Γ (mb m1 (ctb m2)) Γr Γ' Γb := fun s I F N σ e d D q =>
  h1 s I F N σ e d _ (R.sat_imp (sat_mb.mp q) fun c s1 q => by
    cases c with
    | rt x => exact q
    | nx x => exact fun I1 N1 σ1 a1 d1 e1 => h2 x s1 I1 F N1 σ1 e1 d1 D (R.sat_imp q fun c s2 q => ctup a1 q)
    | br x => exact nomatch x)
theorem rc_lastC {m1 : Mn S (Ct ρ τ' Empty)} {f : τ' → τ} (h1 : RC Ret t Γ m1 Γr Γt Γe) (w : ∀ x s, Wk (Γt x s) (Γ' (f x) s)) : RC Ret t Γ (mb m1 (ctb fun x => mp (.nx (f x)))) Γr Γ' Γb := fun s I F N σ e d D q => by
  refine h1 s I F N σ e d D (R.sat_imp (sat_mb.mp q) fun c s1 q => ?_)
  cases c with
  | rt x => exact q
  | nx x =>
    intro I1 N1 σ1 a1 d1 e1
    obtain ⟨I2, N2, x1, x2, x3, x4⟩ := e1.wk (w x s1) d1
    have q2 : ∀ I' N' σ', Ex I I' → Dis N' I' → EnvG s1 I' F N' σ' (Γ' (f x) s1) → D.nx σ' (ov N' I') := q
    rw [← x3]
    exact q2 I2 N2 σ1 (a1.trans x1) x2 x4
  | br x => exact nomatch x
end
end
/-! ### the built-ins' names -/
theorem bt_isinstance : bootBuiltins "isinstance" = some (.builtin "isinstance") := by decide +kernel
theorem bt_int : bootBuiltins "int" = some (.type "int") := by decide +kernel
theorem bt_bool : bootBuiltins "bool" = some (.type "bool") := by decide +kernel
theorem bt_list : bootBuiltins "list" = some (.type "list") := by decide +kernel
theorem bt_tuple : bootBuiltins "tuple" = some (.type "tuple") := by decide +kernel
theorem bt_str : bootBuiltins "str" = some (.type "str") := by decide +kernel
theorem bt_len : bootBuiltins "len" = some (.builtin "len") := by decide +kernel
theorem bt_sum : bootBuiltins "sum" = some (.builtin "sum") := by decide +kernel
theorem bt_sorted : bootBuiltins "sorted" = some (.builtin "sorted") := by decide +kernel
theorem bt_abs : bootBuiltins "abs" = some (.builtin "abs") := by decide +kernel
theorem bt_min : bootBuiltins "min" = some (.builtin "min") := by decide +kernel
theorem bt_max : bootBuiltins "max" = some (.builtin "max") := by decide +kernel
theorem bt_all : bootBuiltins "all" = some (.builtin "all") := by decide +kernel
theorem bt_any : bootBuiltins "any" = some (.builtin "any") := by decide +kernel
end Mir

/-! MirM: plain laws used by several claims -/
namespace Mir
open PySem L2
section
variable {S α β τ ρ : Type}
theorem rng_zero {a : Int} : rng a 0 = [] := rfl
theorem rng_succ {a : Int} {n : Nat} : rng a (n + 1) = a :: rng (a + 1) n := by
  unfold rng
  rw [List.range_succ_eq_map, List.map_cons, List.map_map]
  congr 1
  · simp
  · apply List.map_congr_left
    intro i _
    simp only [Function.comp]
    omega
theorem rng_add {a : Int} {m n : Nat} : rng a (m + n) = rng a m ++ rng (a + m) n := by
  induction m generalizing a with
  | zero => simp [rng_zero]
  | succ m ih =>
    have e : a + 1 + (m : Int) = a + ((m + 1 : Nat) : Int) := by omega
    rw [Nat.add_right_comm, rng_succ, rng_succ, ih, List.cons_append, e]
theorem mem_rng {a x : Int} {n : Nat} : x ∈ rng a n ↔ a ≤ x ∧ x < a + n := by
  induction n generalizing a with
  | zero => exact ⟨fun h => (nomatch h), fun h => by omega⟩
  | succ n ih => rw [rng_succ, List.mem_cons, ih]; omega
theorem rng_pw {a : Int} {n : Nat} : (rng a n).Pairwise (· < ·) := by
  induction n generalizing a with
  | zero => exact .nil
  | succ n ih =>
    rw [rng_succ]
    exact .cons (fun x hx => by have := mem_rng.mp hx; omega) ih
/-- a for loop by an invariant of what is left -/
theorem sat_forP {body : α → τ → Mn S τ} {Inv : List α → τ → S → Prop} {Q : τ → S → Prop} (step : ∀ x xs t s, Inv (x :: xs) t s → (body x t s).sat fun t' s' => Inv xs t' s') (fin : ∀ t s, Inv [] t s → Q t s) : ∀ {xs : List α} {t : τ} {s : S}, Inv xs t s → (forP xs t body s).sat Q
  | [], t, s, h => fin t s h
  | x :: xs, t, s, h => sat_mb.mpr (R.sat_imp (step x xs t s h) fun t' s' h' => sat_forP step fin h')
/-- .. with ways out -/
theorem sat_forC {body : α → τ → Mn S (Ct ρ τ τ)} {Inv : List α → τ → S → Prop} {Q : Ct ρ τ β → S → Prop} (step : ∀ x xs t s, Inv (x :: xs) t s → (body x t s).sat fun c s' => match c with | .rt y => Q (.rt y) s' | .nx t' => Inv xs t' s' | .br t' => Q (.nx t') s') (fin : ∀ t s, Inv [] t s → Q (.nx t) s) : ∀ {xs : List α} {t : τ} {s : S}, Inv xs t s → (forC xs t body s).sat Q
  | [], t, s, h => fin t s h
  | x :: xs, t, s, h => sat_mb.mpr (R.sat_imp (step x xs t s h) fun c s' h' => by
      cases c with
      | rt y => exact h'
      | nx t' => exact sat_forC step fin h'
      | br t' => exact h')
theorem sat_cmGo {c : α → Mn S Bool} {f : α → Mn S β} {p : α → Bool} {g : α → β} {s : S} {Q : List β → S → Prop} : ∀ {xs : List α} {acc : List β}, (∀ x ∈ xs, (c x s).sat fun b s' => b = p x ∧ s' = s) → (∀ x ∈ xs, p x = true → (f x s).sat fun y s' => y = g x ∧ s' = s) → Q (acc ++ (xs.filter p).map g) s → (cmGo xs acc c f s).sat Q
  | [], acc, _, _, q => sat_mp.mpr (by simpa using q)
  | x :: xs, acc, hc, hf, q => by
    unfold cmGo
    refine sat_mb.mpr (R.sat_imp (hc x (List.mem_cons_self ..)) fun b s' ⟨hb, hs⟩ => ?_)
    subst hs
    rw [List.filter_cons] at q
    cases hp : p x with
    | true =>
      rw [hp] at hb q
      subst hb
      refine sat_mi.mpr ⟨fun _ => sat_mb.mpr (R.sat_imp (hf x (List.mem_cons_self ..) hp) fun y s2 ⟨hy, hs2⟩ => ?_), fun h => nomatch h⟩
      subst hy hs2
      exact sat_cmGo (fun x h => hc x (List.mem_cons_of_mem _ h)) (fun x h => hf x (List.mem_cons_of_mem _ h)) (by simpa using q)
    | false =>
      rw [hp] at hb q
      subst hb
      refine sat_mi.mpr ⟨fun h => (nomatch h), fun _ => sat_cmGo (fun x h => hc x (List.mem_cons_of_mem _ h)) (fun x h => hf x (List.mem_cons_of_mem _ h)) (by simpa using q)⟩
theorem sat_cmP {c : α → Mn S Bool} {f : α → Mn S β} {p : α → Bool} {g : α → β} {s : S} {Q : List β → S → Prop} {xs : List α} (hl : xs.length ≤ 16000000) (hc : ∀ x ∈ xs, (c x s).sat fun b s' => b = p x ∧ s' = s) (hf : ∀ x ∈ xs, p x = true → (f x s).sat fun y s' => y = g x ∧ s' = s) (q : Q ((xs.filter p).map g) s) : (cmP xs c f s).sat Q :=
  sat_mb.mpr (sat_mc.mpr ⟨decide_eq_true hl, sat_cmGo hc hf q⟩)
end
theorem sum_rep {k : Nat} {x : Int} : (List.replicate k x).sum = k * x := by
  induction k with
  | zero => simp
  | succ k ih => rw [List.replicate_succ, List.sum_cons, ih]; rw [Int.natCast_succ, Int.add_mul]; omega
theorem log2_lt' {n k : Nat} (h : n < 2 ^ k) (hk : k ≠ 0) : n.log2 < k := by
  by_cases h0 : n = 0
  · subst h0; simp; omega
  · exact (Nat.log2_lt h0).mpr h
theorem modOk_of {j : Int} (h : 0 < j) : modOk j = true := decide_eq_true h
theorem divOk_of {j : Int} (h : 0 < j) (h2 : j < 2 ^ 64) : divOk j = true := decide_eq_true ⟨h, by
  have : j.natAbs < 2 ^ 64 := by omega
  have := log2_lt' this (by decide)
  omega⟩
theorem mulOk_of {i j : Int} (h : i.natAbs < 2 ^ 64) (h2 : j.natAbs < 2 ^ 64) : mulOk i j = true := decide_eq_true (by
  have := log2_lt' h (by decide)
  have := log2_lt' h2 (by decide)
  omega)
theorem powOk_of {i j : Int} (h : i.natAbs < 2 ^ 64) (h1 : 0 ≤ j) (h2 : j ≤ 1000000) : powOk i j = true := decide_eq_true ⟨h1, h2, h⟩
theorem b62_of {i : Int} (h1 : -1000000000 ≤ i) (h2 : i ≤ 1000000000) : b62 i = true := decide_eq_true (by constructor <;> omega)
theorem atI_get' {α : Type} {xs : List α} {i : Int} (h0 : 0 ≤ i) (h1 : i < xs.length) : atI xs i = xs[i.toNat]? := by
  unfold atI ixN
  rw [if_pos h0, if_pos h1]
  rfl
theorem atI_some {α : Type} {xs : List α} {i : Int} (h0 : 0 ≤ i) (h1 : i < xs.length) : ∃ x, atI xs i = some x ∧ x ∈ xs := by
  have h : i.toNat < xs.length := by omega
  exact ⟨xs[i.toNat], by rw [atI_get' h0 h1, List.getElem?_eq_getElem h], List.getElem_mem h⟩
end Mir

/-! MirN: the same laws over a shut form of sat: nothing unfolds a mirror by itself -/
namespace Mir
open PySem L2
structure R.st {S α : Type} (r : R S α) (Q : α → S → Prop) : Prop where
  to : r.sat Q
section
variable {S α β τ ρ : Type}
theorem R.st_imp {m : R S α} {Q Q' : α → S → Prop} (h : m.st Q) (f : ∀ a s, Q a s → Q' a s) : m.st Q' := ⟨R.sat_imp h.to f⟩
theorem st_iff {m : R S α} {Q : α → S → Prop} : m.st Q ↔ m.sat Q := ⟨fun h => h.to, fun h => ⟨h⟩⟩
theorem st_mb {m : Mn S α} {f : α → Mn S β} {s : S} {Q : β → S → Prop} : (mb m f s).st Q ↔ (m s).st fun a s' => (f a s').st Q := by
  rw [st_iff, st_iff, sat_mb]
  exact ⟨fun h => R.sat_imp h fun a s q => ⟨q⟩, fun h => R.sat_imp h fun a s q => q.to⟩
theorem st_mp {a : α} {s : S} {Q : α → S → Prop} : (mp a s).st Q ↔ Q a s := by rw [st_iff, sat_mp]
theorem st_mc {c : Bool} {a : α} {s : S} {Q : α → S → Prop} : (mc c a s).st Q ↔ c = true ∧ Q a s := by rw [st_iff, sat_mc]
theorem st_mo {o : Option α} {s : S} {Q : α → S → Prop} : (mo o s).st Q ↔ ∃ a, o = some a ∧ Q a s := by rw [st_iff, sat_mo]
theorem st_mg {f : S → α} {s : S} {Q : α → S → Prop} : (mg f s).st Q ↔ Q (f s) s := by rw [st_iff, sat_mg]
theorem st_ms {f : S → S} {s : S} {Q : Unit → S → Prop} : (ms f s).st Q ↔ Q () (f s) := by rw [st_iff, sat_ms]
theorem st_mbad {s : S} {Q : α → S → Prop} : ((mbad : Mn S α) s).st Q ↔ False := by rw [st_iff, sat_mbad]
theorem st_mcs {c : S → Bool} {f : S → α} {s : S} {Q : α → S → Prop} : (mcs c f s).st Q ↔ c s = true ∧ Q (f s) s := by rw [st_iff, sat_mcs]
theorem st_mi {b : Bool} {m1 m2 : Mn S α} {s : S} {Q : α → S → Prop} : (mi b m1 m2 s).st Q ↔ (b = true → (m1 s).st Q) ∧ (b = false → (m2 s).st Q) := by
  rw [st_iff, st_iff, st_iff, sat_mi]
theorem st_mu {m : Mn Unit α} {s : S} {Q : α → S → Prop} : (mu m s).st Q ↔ (m ()).st fun a _ => Q a s := by rw [st_iff, st_iff, sat_mu]
theorem st_mall {p : S → Addr → Bool} {s : S} {Q : Addr → S → Prop} : (mall p s).st Q ↔ ∀ a, p s a = true → Q a s := by rw [st_iff, sat_mall]
theorem st_forP {body : α → τ → Mn S τ} {Inv : List α → τ → S → Prop} {Q : τ → S → Prop} (step : ∀ x xs t s, Inv (x :: xs) t s → (body x t s).st fun t' s' => Inv xs t' s') (fin : ∀ t s, Inv [] t s → Q t s) {xs : List α} {t : τ} {s : S} (h : Inv xs t s) : (forP xs t body s).st Q :=
  ⟨sat_forP (fun x xs t s h => (step x xs t s h).to) fin h⟩
theorem st_forC {body : α → τ → Mn S (Ct ρ τ τ)} {Inv : List α → τ → S → Prop} {Q : Ct ρ τ β → S → Prop} (step : ∀ x xs t s, Inv (x :: xs) t s → (body x t s).st fun c s' => match c with | .rt y => Q (.rt y) s' | .nx t' => Inv xs t' s' | .br t' => Q (.nx t') s') (fin : ∀ t s, Inv [] t s → Q (.nx t) s) {xs : List α} {t : τ} {s : S} (h : Inv xs t s) : (forC xs t body s).st Q :=
  ⟨sat_forC (fun x xs t s h => (step x xs t s h).to) fin h⟩
theorem st_cmP {c : α → Mn S Bool} {f : α → Mn S β} {p : α → Bool} {g : α → β} {s : S} {Q : List β → S → Prop} {xs : List α} (hl : xs.length ≤ 16000000) (hc : ∀ x ∈ xs, (c x s).st fun b s' => b = p x ∧ s' = s) (hf : ∀ x ∈ xs, p x = true → (f x s).st fun y s' => y = g x ∧ s' = s) (q : Q ((xs.filter p).map g) s) : (cmP xs c f s).st Q :=
  ⟨sat_cmP hl (fun x h => (hc x h).to) (fun x h h2 => (hf x h h2).to) q⟩
/-- while, with a count of the turns that are left -/
theorem st_whP {c : τ → Mn S Bool} {body : τ → Mn S τ} {Inv : Nat → τ → S → Prop} {Q : τ → S → Prop} (step : ∀ n t s, Inv n t s → (c t s).st fun b s' => (b = true → ∃ n', n = n' + 1 ∧ (body t s').st (Inv n')) ∧ (b = false → Q t s')) : ∀ {n : Nat} {t : τ} {s : S}, Inv n t s → (whP (n + 1) t c body s).st Q
  | n, t, s, h => by
    unfold whP
    refine st_mb.mpr (R.st_imp (step n t s h) fun b s' q => st_mi.mpr ⟨fun hb => ?_, fun hb => st_mp.mpr (q.2 hb)⟩)
    obtain ⟨n', rfl, q2⟩ := q.1 hb
    exact st_mb.mpr (R.st_imp q2 fun t' s2 h2 => st_whP step h2)
theorem forP_nil {t : τ} {body : α → τ → Mn S τ} : forP [] t body = mp t := rfl
theorem forP_cons {x : α} {xs : List α} {t : τ} {body : α → τ → Mn S τ} : forP (x :: xs) t body = mb (body x t) fun t' => forP xs t' body := rfl
end
end Mir

/-! Mir9: repr of numbers and None; is, of bools; lists compared; max of a list -/
namespace Mir
open PySem PySem.Spec PyProof.Rows L2
/-! ### repr -/
def rReprO : List V → Hp → VK → Prop := fun xs H Q => (∃ i : Int, xs = [.int i] ∧ i.natAbs.log2 < 1920 ∧ Q (.str (toString i)) H) ∨ (xs = [.non] ∧ Q (.str "None") H)
theorem cr_reprO {X : Cx} : CallR X (.builtin "repr") rReprO := by
  intro pins s σ H xs us Q I r h
  rcases h with ⟨i, rfl, hz, q⟩ | ⟨rfl, q⟩
  · exact SkE.call_repr_int pins s σ H _ us Q I r ⟨i, rfl, hz, q⟩
  · obtain ⟨u, rfl, ru⟩ := vals1 r
    cases ru
    exact PySem.P.repr_of_none ⟨.str _, H, I.tok _, ⟨_, rfl⟩, q⟩
def rprO : Option Int → Str
  | none => "None"
  | some i => toString i
def rprOk : Option Int → Bool
  | none => true
  | some i => decide (i.natAbs.log2 < 1920)
section
variable {K : PySem.W.Frag}
theorem c_reprO {x : Option Int} (h : rprOk x = true) : Cb rReprO [pv K x] (pv K (rprO x)) := cb1 fun I N v Q d hv q => by
  cases x with
  | none => exact .inr ⟨by rw [show v = V.non from hv], q _ I (Ex.refl I) d rfl⟩
  | some i => exact .inl ⟨i, by rw [show v = V.int i from hv.1], of_decide_eq_true h, q _ I (Ex.refl I) d rfl⟩
section
variable {S α ζ : Type} [SH S] [Rp α] {Γ1 : List Sl} {Γ : S → List Sl} {te ta tb : TE} {tl : TA} {ps : List PV} {t1 t2 : TO}
theorem em_cbC0 {r : List V → Hp → VK → Prop} {w : α} {g : Bool} (h : ∀ s, AP tl (Γ s) ps) (c : g = true → Cb r ps (pv K w)) : EM K (tCB r tl) Γ (mc g w) := fun s I F N σ e d Q q =>
  h s I F N σ e d _ fun vs I1 a1 d1 r1 => c (sat_mc.mp q).1 I1 N vs Q d1 r1 fun v I2 a2 d2 r2 => (sat_mc.mp q).2 v I2 N (a1.trans a2) d2 (e.up (a1.trans a2)) r2
/-! ### is, of bools -/
theorem o_isB {a b : Bool} : Op2 rIsB (pv K a) (pv K b) (pv K (decide (a = b))) := fun I M u v Q d hx hy k => ⟨a, b, hx, hy, k _ I (Ex.refl I) d rfl⟩
theorem o_notB {a b : Bool} : Op2 rNotB (pv K a) (pv K b) (pv K (!decide (a = b))) := fun I M u v Q d hx hy k => ⟨a, b, hx, hy, k _ I (Ex.refl I) d rfl⟩
/-! ### data -/
theorem hu64 {k : Nat} {A : Around} (hr : Room k A) : A.units + 64 < cLine := by
  have := hr.un
  omega
/-- a type as data -/
class Dt (α : Type) [Rp α] where
  dt : α → PyData
  rel : ∀ {K : PySem.W.Frag} {x : α} {H : Hp} {v : V}, Rp.r K x H v → Dp K H v (dt x)
  lay : ∀ x : α, (dt x).canLay0 = true
  dep : Nat
  dpt : ∀ x : α, (dt x).depth ≤ dep
  eqv : ∀ x y : α, PyData.eqv (dt x) (dt y) = true ↔ x = y
instance dtInt : Dt Int := ⟨.int, fun h => by rw [show _ = V.int _ from h]; exact .int _, fun _ => by simp [PyData.canLay0], 0, fun _ => by simp [PyData.depth], fun x y => by simp [PyData.eqv]⟩
theorem dpAll_of {α : Type} [Rp α] [Dt α] {K : PySem.W.Frag} {H : Hp} : ∀ {xs : List α} {vs : List V}, Rs K xs H vs → DpAll K H vs (xs.map Dt.dt)
  | _, _, .nil => .nil
  | _, _, .cons h t => .cons (Dt.rel h) (dpAll_of t)
theorem layAll_of {α : Type} [Rp α] [Dt α] : ∀ xs : List α, PyData.canLayAll0 (xs.map (Dt.dt (α := α))) = true
  | [] => by simp [PyData.canLayAll0]
  | x :: xs => by simp [PyData.canLayAll0, Dt.lay x, layAll_of xs]
theorem depAll_of {α : Type} [Rp α] [Dt α] : ∀ xs : List α, PyData.depthAll (xs.map (Dt.dt (α := α))) ≤ Dt.dep α
  | [] => by simp [PyData.depthAll]
  | x :: xs => by
    have h1 := Dt.dpt x
    have h2 := depAll_of xs
    simp [PyData.depthAll]
    omega
theorem eqvAll_of {α : Type} [Rp α] [Dt α] : ∀ xs ys : List α, PyData.eqvAll (xs.map (Dt.dt (α := α))) (ys.map Dt.dt) = true ↔ xs = ys
  | [], [] => by simp [PyData.eqvAll]
  | [], _ :: _ => by simp [PyData.eqvAll]
  | _ :: _, [] => by simp [PyData.eqvAll]
  | x :: xs, y :: ys => by
    have h1 := Dt.eqv x y
    have h2 := eqvAll_of xs ys
    simp [PyData.eqvAll, h1, h2]
instance dtList {α : Type} [Rp α] [Dt α] : Dt (List α) := ⟨fun xs => .list (xs.map Dt.dt), fun ⟨a, vs, h1, h2, h3⟩ => by rw [h1]; exact .lst (SqL.of h2) (dpAll_of h3), fun xs => by simp [PyData.canLay0, layAll_of xs], Dt.dep α + 1, fun xs => by
    have := depAll_of xs
    simp [PyData.depth]
    omega, fun xs ys => by
    have := eqvAll_of xs ys
    simp [PyData.eqv, this]⟩
theorem shaped_of {α : Type} [Rp α] [Dt α] (h : Dt.dep α ≤ 64) (x : α) : SeqAt.shaped (Dt.dt x) = true := by
  unfold SeqAt.shaped
  rw [Dt.lay, decide_eq_true (Nat.le_trans (Dt.dpt x) h)]
  rfl
theorem eqv_dec {α : Type} [Rp α] [Dt α] [DecidableEq α] (x y : α) : PyData.eqv (Dt.dt x) (Dt.dt y) = decide (x = y) := by
  by_cases h : x = y
  · rw [(Dt.eqv x y).mpr h, decide_eq_true h]
  · rw [decide_eq_false h]
    cases q : PyData.eqv (Dt.dt x) (Dt.dt y) with
    | false => rfl
    | true => exact absurd ((Dt.eqv x y).mp q) h
theorem dp_up {K : PySem.W.Frag} {α : Type} [Rp α] [Dt α] {x : α} {H H' : Hp} {v : V} (e : Ex H H') (h : Rp.r K x H v) : Dp K H' v (Dt.dt x) := Dt.rel (Rp.up e h)
theorem o_eqDt {α : Type} [Rp α] [Dt α] [DecidableEq α] {x y : α} (h : Dt.dep α ≤ 64) : Op2 (rEqD K) (pv K x) (pv K y) (pv K (decide (x = y))) := fun I M u v Q d hx hy k =>
  ⟨_, _, dp_up (ex_ov d) hx, dp_up (ex_ov d) hy, shaped_of h x, shaped_of h y, by rw [eqv_dec]; exact k _ I (Ex.refl I) d rfl⟩
theorem o_neDt {α : Type} [Rp α] [Dt α] [DecidableEq α] {x y : α} (h : Dt.dep α ≤ 64) : Op2 (rNeD K) (pv K x) (pv K y) (pv K (!decide (x = y))) := fun I M u v Q d hx hy k =>
  ⟨_, _, dp_up (ex_ov d) hx, dp_up (ex_ov d) hy, shaped_of h x, shaped_of h y, by rw [eqv_dec]; exact k _ I (Ex.refl I) d rfl⟩
/-! ### max of a list -/
def mxL : List Int → Int
  | [] => 0
  | x :: xs => xs.foldl max x
theorem foldl_max : ∀ (xs : List Int) (x : Int), (xs.foldl max x = x ∨ xs.foldl max x ∈ xs) ∧ x ≤ xs.foldl max x ∧ ∀ y ∈ xs, y ≤ xs.foldl max x
  | [], x => ⟨.inl rfl, Int.le_refl _, fun y h => nomatch h⟩
  | z :: xs, x => by
    obtain ⟨h1, h2, h3⟩ := foldl_max xs (max x z)
    rw [List.foldl_cons]
    refine ⟨?_, by omega, fun y hy => ?_⟩
    · rcases h1 with h1 | h1
      · rw [h1]
        by_cases c : x ≤ z
        · rw [Int.max_eq_right c]; exact .inr (List.mem_cons_self ..)
        · rw [Int.max_eq_left (by omega)]; exact .inl rfl
      · exact .inr (List.mem_cons_of_mem _ h1)
    · rcases List.mem_cons.mp hy with rfl | h
      · omega
      · exact h3 y h
theorem mxL_mem {xs : List Int} (h : xs ≠ []) : mxL xs ∈ xs := by
  cases xs with
  | nil => exact absurd rfl h
  | cons x xs =>
    rcases (foldl_max xs x).1 with q | q
    · show xs.foldl max x ∈ x :: xs
      rw [q]
      exact List.mem_cons_self ..
    · exact List.mem_cons_of_mem _ q
theorem mxL_le {xs : List Int} {y : Int} (h : y ∈ xs) : y ≤ mxL xs := by
  cases xs with
  | nil => cases h
  | cons x xs =>
    rcases List.mem_cons.mp h with rfl | q
    · exact (foldl_max xs y).2.1
    · exact (foldl_max xs x).2.2 y q
theorem mxL_eq {xs : List Int} {m : Int} (h : m ∈ xs) (h2 : ∀ y ∈ xs, y ≤ m) : mxL xs = m :=
  Int.le_antisymm (h2 _ (mxL_mem (List.ne_nil_of_mem h))) (mxL_le h)
theorem c_maxL {xs : List Int} (h : (!xs.isEmpty) = true) : Cb (rMax K) [pv K xs] (pv K (mxL xs)) := cb1 fun I N v Q d ⟨a, vs, h1, h2, h3⟩ q => ⟨a, xs, by rw [h1], SqL.of (by rw [← rs_int h3]; exact ex_ov d _ _ h2), by cases xs with
  | nil => cases h
  | cons x xs => exact Nat.succ_pos _, fun m hm hu => by
    rw [← mxL_eq hm hu]
    exact q _ I (Ex.refl I) d rfl⟩
/-! ### a slice of something made -/
theorem em_slM {xs : Mn S (List α)} {lo hi : Option Int} (h : EM K te Γ xs) (h1 : ∀ s, OPa t1 (Γ s) lo) (h2 : ∀ s, OPa t2 (Γ s) hi) : EM K (tSl (rSlL K) te t1 t2) Γ (mb xs fun x => mp (cutL x lo hi)) := fun s I F N σ e d Q q =>
  h s I F N σ e d _ (R.sat_imp (sat_mb.mp q) fun x s1 q v I1 N1 a1 d1 e1 r1 => h1 s1 I1 F N1 σ e1 d1 _ fun I2 a2 d2 => h2 s1 I2 F N1 σ (e1.up a2) d2 _ fun I3 a3 d3 => by
    obtain ⟨a, vs, g1, g2, g3⟩ := Rp.up (a2.trans a3) r1
    refine ⟨a, vs, g1, SqL.of (ex_ov d3 _ _ g2), fun p hp => ?_⟩
    obtain ⟨x1, x2, x3, x4⟩ := mk_list d3 hp (rs_cut g3)
    rw [x4]
    exact q _ _ _ (((a1.trans a2).trans a3).trans x1) x2 (e1.up ((a2.trans a3).trans x1)) x3)
end
end
theorem bt_repr : bootBuiltins "repr" = some (.builtin "repr") := by decide +kernel
end Mir

/-! Mir10: defs that are run where no guard stands (as a law is): so that repr of lists may be taken -/
namespace Mir
open PySem PySem.Spec PyProof.Rows L2
/-- as FnOk, of callers without guards -/
structure FnG (P : Program) (w : World) (K : PySem.W.Frag) (mg : Str → Option Value) (base : Heap) (CX : CXT) (k : Nat) (f : Addr) (fd : FuncData) (ps : List Str) (sp : Sp) : Prop where
  len : ∀ vs H Q E, sp vs H Q E → vs.length = ps.length
  run : ∀ (B : Around) (out : List Env) (s : Shared) (H : Hp) (as : Args) (us : List Value) (vs : List V) (Q : VK) (E : XK), B.guards = some [] → Room k B → Env0 P w K mg base B out s H → BindsTo s fd as (ps.zip us) → Vals vs us → sp vs H Q E → codeAny (model P w) B (.call (.ref f) as) (CR CX out P w H s Q E) s
section
variable {P : Program} {w : World} {K : PySem.W.Frag} {mg : Str → Option Value} {base : Heap} {CX : CXT} {N ps : List Str} {k : Nat} {sp : Sp}
theorem fnG_of {f : Addr} {nm ql : Str} {pa : Arguments} {bd : List Stmt} {sc : Scope} {dV kV dc pm cdv ct oc : Value} {an od : Option Addr} {sl : Array (Option Value)} (look : K.lookup f = some ⟨oc, od, .func (PySem.W.fnOf nm ql pa bd sc dV kV dc pm an cdv ct), sl⟩) (code : PySem.W.codeIn K cdv ql = true) (S : FnScope N ps sc)
    (hl : ∀ vs H Q E, sp vs H Q E → vs.length = ps.length) (hb : ∀ (B : Around) (out : List Env) (s : Shared) (H : Hp) (vs : List V) (Q : VK) (E : XK), (B.deeper (envOfC ql sc s.heap.objs.size f cdv)).guards = some [] → Room k (B.deeper (envOfC ql sc s.heap.objs.size f cdv)) → sp vs H Q E → ∃ t, PSs (cxOf CX P w K mg base N ql sc f cdv B out s H E) bd t ∧ t { nx := fun _ H' => Q .non H', rt := Q } (start N vs) H) :
    FnG P w K mg base CX (k + 1) f (PySem.W.fnOf nm ql pa bd sc dV kV dc pm an cdv ct) ps sp := ⟨hl, fun B out s H as us vs Q E gd room env bind rel prom => by
  have n := hl vs H Q E prom
  have inK : K.In s.heap := env.mod.kin.keeps fun a o q => (env.bs a o q).1
  have nolim : s.heap.NoLimit := env.mod.nolimit.keeps fun a o q => (env.bs a o q).1
  have kinds : ∀ y ∈ ps.zip us, sc.names.lookup y.1 = some .local ∨ (sc.names.lookup y.1 = some .cell ∧ ((cellsFrom (s.heap.objs.size + 1) sc.names []).lookup y.1).isSome = true) := fun ⟨x, v⟩ hy => (S.par x (List.of_mem_zip hy).1).elim .inl fun q => .inr ⟨q, PySem.W.cellsFrom_some _ _ _ (.inl q)⟩
  refine codeAny_call_function room.depth (inK _ _ look) rfl S.co S.gen rfl (PySem.W.codeRec_of inK code) (bind _ _ _ _ (wpAny_newFunctionEnv_cells S.kind kinds fun e he s2 x => ?_))
  subst he
  refine ⟨nolim.keeps x.toInCall.keep, codeAny_func ?_⟩
  obtain ⟨t, ht, hq⟩ := hb B out s H vs Q E gd (room.deeper _) prom
  have inv : Inv (cxOf CX P w K mg base N ql sc f cdv B out s H E) [] (start N vs) H s2 := inv_start S room.hd env n rel x
  refine wpAny_mono (ht.run [] s2 (start N vs) H _ inv hq) (fun fl s3 h3 => ?_) fun e s3 h3 => h3
  have done : ∀ {σ : L2.St} {H2 : Hp} {v : V} {u : Value}, Inv (cxOf CX P w K mg base N ql sc f cdv B out s H E) [] σ H2 s3 → RelV v u → Q v H2 → CE out P w H s Q u s3 := fun {σ H2 v u} j r q => ⟨v, H2, j.os, j.bare, j.base, j.hok, r, q⟩
  cases fl with
  | ret u => exact let ⟨v, σ, H2, j, r, q⟩ := h3; done j r q
  | next => exact let ⟨σ, H2, j, q⟩ := h3; done (v := V.non) (u := Value.none) j rfl q
  | brk => exact let ⟨_, _, _, q⟩ := h3; False.elim q
  | cont => exact let ⟨_, _, _, q⟩ := h3; False.elim q⟩
theorem okG {x ql : Str} {pa : Arguments} {bd : List Stmt} {sc : Scope} {dvs : List V} {kws : List (Str × V)} {f : Addr} {fd : FuncData} (F : FunD K x ql pa bd sc dvs kws f fd) (S : FnScope N ps sc) (hl : ∀ vs H Q E, sp vs H Q E → vs.length = ps.length)
    (hb : ∀ (cdv : Value) (B : Around) (out : List Env) (s : Shared) (H : Hp) (vs : List V) (Q : VK) (E : XK), (B.deeper (envOfC ql sc s.heap.objs.size f cdv)).guards = some [] → Room k (B.deeper (envOfC ql sc s.heap.objs.size f cdv)) → sp vs H Q E → ∃ t, PSs (cxOf CX P w K mg base N ql sc f cdv B out s H E) bd t ∧ t { nx := fun _ H' => Q .non H', rt := Q } (start N vs) H) : FnG P w K mg base CX (k + 1) f fd ps sp := by
  obtain ⟨oc, od, dV, kV, dc, pm, an, cdv, ct, sl, rfl, look, code, _, _⟩ := F.ex
  exact fnG_of look code S hl fun B out s H vs Q E gd room prom => hb cdv B out s H vs Q E gd room prom
/-- packed -/
structure CalG (P : Program) (w : World) (K : PySem.W.Frag) (mg : Str → Option Value) (base : Heap) (k : Nat) (x : Str) (ps : List Str) (sp : Sp) : Prop where
  ex : ∃ (f : Addr) (fd : FuncData), FnG P w K mg base CX0 k f fd ps sp ∧ mg x = some (.ref f) ∧ PySem.W.keepIn K (.ref f) = true ∧ Binds K fd ps []
structure CalKG (P : Program) (w : World) (K : PySem.W.Frag) (mg : Str → Option Value) (base : Heap) (k : Nat) (x : Str) (ps : List Str) (sp : Sp) (ks : List Str) (g : List Value → List Value → List Value) (gV : List V → List V → List V) : Prop where
  ex : ∃ (f : Addr) (fd : FuncData), FnG P w K mg base CX0 k f fd ps sp ∧ mg x = some (.ref f) ∧ PySem.W.keepIn K (.ref f) = true ∧ KBinds K fd ps ks g gV
end
section
variable {X : Cx} {CX : CXT} {k : Nat} {f : Addr} {fd : FuncData} {ps ks : List Str} {sp : Sp} {E : XK} {x : Str} {p pos : Pos} {e : Expr} {es : List Expr} {kws : List Keyword} {t tk : TA} {g : List Value → List Value → List Value} {gV : List V → List V → List V} {ds : List Value} {dvs : List V}
theorem pe_callG (F : FnG X.prog X.w X.K X.mg X.base CX k f fd ps sp) (gd : X.A.guards = some []) (hr : Room k X.A) (hg : Gl X x) (hm : X.mg x = some (.ref f)) (hk : PySem.W.keepIn X.K (.ref f) = true) (hb : Binds X.K fd ps ds) (hd : Vals dvs ds) (hx : Passes CX X E) (ha : PA X (e :: es) t)
    (hdb : (x == ("__debug__" : Str)) = false := by decide) (he : starEach (e :: es) X.env = (false, eval e X.env) :: starEach es X.env := by rfl) (hpl : (backTo pos (starEach es X.env)).any (·.1) = false := by rfl) : PE X (.Call (.Name x p) (e :: es) [] pos) (tCall sp dvs E t) :=
  ⟨fun pins s σ H Q I h => wpAny_Call_Name_kw (ld_glob I hg hm (PySem.W.callWith_K (h₀ := X.base) I.ok.mod.kin hk (thn (ha.run pos pins s σ H _ I h) fun us s1 ⟨vs, H1, I1, r, q⟩ => ⟨I1.kIn, by
    have rr : Vals (vs ++ dvs) (us ++ ds) := r.append hd
    have n : (us ++ ds).length = ps.length := by rw [← rr.length]; exact F.len _ _ _ _ q
    refine wpAny_call (codeAny_mono (F.run X.A X.stack s1 H1 ⟨us, []⟩ (us ++ ds) (vs ++ dvs) Q E gd hr I1.env0 (hb s1 us I1.kIn n) rr q) fun r s' hq => ?_)
    exact match r, hq with
      | .error z, hq => hx pins σ H1 s1 z s' I1 hq
      | .ok (.ret u), hq => I1.after hq
      | .ok .next, hq => False.elim hq
      | .ok .brk, hq => False.elim hq
      | .ok .cont, hq => False.elim hq⟩) he hpl) hdb)⟩
end
end Mir

/-! Mir11: calls by names, repr of data, the law's end, where no guard stands -/
namespace Mir
open PySem PySem.Spec PyProof.Rows L2
section
variable {X : Cx} {CX : CXT} {k : Nat} {f : Addr} {fd : FuncData} {ps ks : List Str} {sp : Sp} {E : XK} {x : Str} {p pos : Pos} {e : Expr} {es : List Expr} {kws : List Keyword} {t tk : TA} {g : List Value → List Value → List Value} {gV : List V → List V → List V} {ds : List Value} {dvs : List V}
theorem pe_callK0G (F : FnG X.prog X.w X.K X.mg X.base CX k f fd ps sp) (gd : X.A.guards = some []) (hr : Room k X.A) (hg : Gl X x) (hm : X.mg x = some (.ref f)) (hk : PySem.W.keepIn X.K (.ref f) = true) (hb : KBinds X.K fd ps ks g gV) (hx : Passes CX X E)
    (hkw : PK X kws tk) (hall : (backToKw pos (keywordEach kws X.env)).all (·.1.isSome) = true := by rfl) (hks : (backToKw pos (keywordEach kws X.env)).filterMap (·.1) = ks := by rfl)
    (hdb : (x == ("__debug__" : Str)) = false := by decide) (hpl : ((backTo pos (starEach [] X.env)).any (·.1) || (backToKw pos (keywordEach kws X.env)).any (·.1.isNone)) = false := by rfl) :
    PE X (.Call (.Name x p) [] kws pos) (tCallK sp gV E tNil tk) := by
  refine ⟨fun pins s σ H Q I h => wpAny_Call_Name_kw (ld_glob I hg hm (PySem.W.callWith_KW0 (h₀ := X.base) I.ok.mod.kin hk hall (thn (hkw.run pos pins s σ H _ I h) fun ws s2 ⟨zs, H2, I2, rz, q2⟩ => ⟨I2.kIn, ?_⟩) hpl) hdb)⟩
  rw [hks]
  have rr := hb.rel (vs := []) (us := []) .nil rz
  have n : (g [] ws).length = ps.length := by rw [← rr.length]; exact F.len _ _ _ _ q2
  refine wpAny_call (codeAny_mono (F.run X.A X.stack s2 H2 ⟨[], ks.zip ws⟩ (g [] ws) (gV [] zs) Q E gd hr I2.env0 (hb.to s2 [] ws I2.kIn n) rr q2) fun r s' hq => ?_)
  exact match r, hq with
    | .error z, hq => hx pins σ H2 s2 z s' I2 hq
    | .ok (.ret u), hq => I2.after hq
    | .ok .next, hq => False.elim hq
    | .ok .brk, hq => False.elim hq
    | .ok .cont, hq => False.elim hq
/-! ### repr of data -/
def rReprD (K : PySem.W.Frag) : List V → Hp → VK → Prop := fun xs H Q => ∃ v d, xs = [v] ∧ Dp K H v d ∧ d.showable = true ∧ SeqAt.shaped d = true ∧ d.shown.length ≤ sizeLine ∧ Q (.str d.shown) H
theorem cr_reprD {X : Cx} (gd : X.A.guards = some []) (hu : X.A.units + 66 < cLine) : CallR X (.builtin "repr") (rReprD X.K) := by
  intro pins s σ H xs us Q I r h
  obtain ⟨v, d, rfl, hd, hs, hsh, hz, q⟩ := h
  obtain ⟨u, rfl, ru⟩ := vals1 r
  have hdep := SeqAt.depth_of_shaped hsh
  have hdict : d.hasDict = false := PyData.hasDict_of_canLay d (SeqAt.canLay_of_shaped hsh)
  cases hd with
  | non => cases ru; exact PySem.P.repr_of_none ⟨.str _, H, I.tok _, ⟨_, rfl⟩, by simpa only [PyData.shown] using q⟩
  | bl b => cases ru; exact PySem.P.repr_of_bool ⟨.str _, H, I.tok _, ⟨_, rfl⟩, by simpa only [PyData.shown] using q⟩
  | int i =>
    obtain ⟨t, rfl⟩ := ru
    exact PySem.P.repr_of_int (by simpa [PyData.showable] using hs) ⟨.str _, H, I.tok _, ⟨_, rfl⟩, by simpa only [PyData.shown] using q⟩
  | str z =>
    obtain ⟨t, rfl⟩ := ru
    exact PySem.P.repr_of_str ⟨.str _, H, I.tok _, ⟨_, rfl⟩, by simpa only [PyData.shown] using q⟩ (by simpa only [PyData.shown] using hz)
  | lst h1 h2 =>
    obtain ⟨as, rd⟩ := Dp.reads I _ _ u (.lst h1 h2) ru
    cases ru
    exact repr_of_reads' rd hs (PyData.noDict_hsm hdict) gd (by omega) (fun b o e => e) (fun h' u tk kk => ⟨.str _, H, I.kept kk, ⟨_, rfl⟩, q⟩) hz
  | tup h1 h2 =>
    obtain ⟨as, rd⟩ := Dp.reads I _ _ u (.tup h1 h2) ru
    cases ru
    exact repr_of_reads' rd hs (PyData.noDict_hsm hdict) gd (by omega) (fun b o e => e) (fun h' u tk kk => ⟨.str _, H, I.kept kk, ⟨_, rfl⟩, q⟩) hz
theorem hu66 {k : Nat} {A : Around} (hr : Room k A) : A.units + 66 < cLine := by
  have := hr.un
  omega
end
section
variable {K : PySem.W.Frag}
def rprD {α : Type} [Rp α] [Dt α] (x : α) : Str := (Dt.dt x).shown
def rprDok {α : Type} [Rp α] [Dt α] (x : α) : Bool := (Dt.dt x).showable && decide ((Dt.dt x).shown.length ≤ sizeLine)
theorem c_reprD {α : Type} [Rp α] [Dt α] {x : α} (hd : Dt.dep α ≤ 64) (h : rprDok x = true) : Cb (rReprD K) [pv K x] (pv K (rprD x)) := cb1 fun I N v Q d hv q => by
  unfold rprDok at h
  rw [Bool.and_eq_true] at h
  exact ⟨v, _, rfl, dp_up (ex_ov d) hv, h.1, shaped_of hd x, of_decide_eq_true h.2, q _ I (Ex.refl I) d rfl⟩
end
end Mir

/-! Mir12: a law's end over a def that is run without guards -/
namespace Mir
open PySem PySem.Spec PyProof.Rows L2
theorem law_G {P : Program} {w : World} {K : PySem.W.Frag} {mg mb : Str → Option Value} {CX : CXT} {k : Nat} {fa a : Addr} {fd : FuncData} {x : Str} {sp : Sp} {st : Shared} {vs : List Value} {is : List Int}
    (inK : K.In st.heap) (hm : st.heap.Ns mainGlobals mg) (hb : st.heap.Ns builtinsNs mb) (hbb : ∀ y : Str, y ≠ "__name__" → mb y = bootBuiltins y) (nl : st.heap.NoLimit) (gn : st.gens = #[]) (obj : st.heap.get? a = some { cls := .type "list", data := .seq vs.toArray }) (itg : IntsAre vs is) (len : is.length ≤ sizeLine) (room : Room k callerA)
    (F : ∀ b0 : Heap, K.In b0 → b0.Ns mainGlobals mg → FnG P w K mg b0 CX k fa fd [x] sp) (bind : ∀ (s : Shared) (u : Value), BindsTo s fd ⟨[u], []⟩ [(x, u)]) (prom : ∀ H : Hp, Only H → SqL K H a (is.map V.int) → sp [.ref a] H (fun v _ => v = .bl true) fun _ _ _ => False) (noX : ∀ H e s', CX [] H st (fun _ _ _ => False) e s' → False) :
    codeAny (model P w) callerA (.call (.ref fa) ⟨[.ref a], []⟩) (fun r s' => r = .ok (.ret (.bool true)) ∧ OldK st.heap s'.heap ∧ s'.os = st.os ∧ AllBare s'.gens) st := by
  have rv := vals_ints itg
  have lv := itg.length
  have go : ∀ H : Hp, Only H → SqL K H a (is.map V.int) → HOk P w H st.heap → (∀ b, H b ≠ none → b = a) → (H a ≠ none → K.lookup a = none) → codeAny (model P w) callerA (.call (.ref fa) ⟨[.ref a], []⟩) (fun r s' => r = .ok (.ret (.bool true)) ∧ OldK st.heap s'.heap ∧ s'.os = st.os ∧ AllBare s'.gens) st := by
    intro H only sq ok atA notK
    have hid : ∀ {b : Addr} {o : Obj}, st.heap.get? b = some o → H b = none → (hidT st.heap H).get? b = some o := fun e n => hidT_get e n
    have isA : ∀ {b : Addr}, H b ≠ none → b = a := fun {b} h => atA b h
    have dictN : ∀ {b : Addr} {o : Obj} {es : Array DictEntry} {ep : Nat}, st.heap.get? b = some o → o.data = .dict es ep → H b = none := fun {b o es ep} e d => by
      by_cases n : H b = none
      · exact n
      · have := isA n
        subst this
        rw [obj] at e
        cases e
        exact absurd (show Data.seq vs.toArray _ = Data.dict es ep from d) (fun z => by cases z)
    have nsH : ∀ {b : Addr} {m : Str → Option Value}, st.heap.Ns b m → (hidT st.heap H).Ns b m := fun {b m} ⟨o, es, ep, e, d, r⟩ => ⟨o, es, ep, hid e (dictN e d), d, r⟩
    have inH : K.In (hidT st.heap H) := fun b o e => hid (inK b o e) (by
      by_cases n : H b = none
      · exact n
      · have := isA n
        subst this
        rw [notK n] at e
        cases e)
    have env : Env0 P w K mg (hidT st.heap H) callerA [] st H := ⟨rfl, ⟨inH, nsH hm, ⟨mb, nsH hb, hbb⟩, let ⟨mc, h1, h2⟩ := nl; ⟨mc, nsH h1, h2⟩⟩, fun b o e => of_hidT e, Nat.le_of_eq (hidT_size _ _), trivial, fun b h => absurd (show b ∈ ([] : List Addr) from h) (by simp), ok, .of_eq gn⟩
    refine codeAny_mono ((F _ inH (nsH hm)).run callerA [] st H ⟨[.ref a], []⟩ [.ref a] [.ref a] _ _ rfl room env (bind st (.ref a)) (.cons rfl .nil) (prom H only sq)) fun r s' h => ?_
    match r, h with
    | .error e, h => exact (noX H e s' h).elim
    | .ok .next, h => exact False.elim h
    | .ok .brk, h => exact False.elim h
    | .ok .cont, h => exact False.elim h
    | .ok (.ret u), ⟨v, H2, os, bare, un, ok2, rel, q⟩ =>
      obtain rfl : v = .bl true := q
      obtain rfl : u = Value.bool true := rel
      refine ⟨rfl, OldK.of_keep fun b o e => ?_, os, bare⟩
      cases n : H b with
      | none => exact un.keep b o e n (fun z => absurd (show b ∈ ([] : List Addr) from z) (by simp)) (by simp)
      | some u =>
        rcases only b with z | ⟨ob, xs, z⟩
        · rw [n] at z; cases z
        · obtain ⟨e1, _⟩ := ok b _ z
          obtain ⟨e2, _⟩ := ok2 b _ (un.frzs b ob _ z)
          rw [e] at e1
          cases e1
          exact e2
  cases hk : K.lookup a with
  | some o =>
    have e := inK a o hk
    rw [obj] at e
    cases e
    exact go (fun _ => none) (fun _ => .inl rfl) (.inr ⟨_, vs.toArray, _, hk, rfl, rfl, rfl, by rw [List.size_toArray, lv]; exact len, by simpa using rv⟩) (fun b u z => nomatch (show (none : Option HO) = some u from z)) (fun b z => absurd rfl z) fun z => absurd rfl z
  | none =>
    have at1 : ∀ {b : Addr} {u : HO}, (if b = a then some (HO.frz { cls := .type "list", data := .seq vs.toArray } (.lst (is.map V.int))) else none) = some u → b = a ∧ u = .frz { cls := .type "list", data := .seq vs.toArray } (.lst (is.map V.int)) := fun {b u} z => by
      by_cases h : b = a
      · rw [if_pos h] at z
        cases z
        exact ⟨h, rfl⟩
      · rw [if_neg h] at z
        cases z
    refine go (fun b => if b = a then some (.frz { cls := .type "list", data := .seq vs.toArray } (.lst (is.map V.int))) else none) (fun b => ?_) (.inl (.inr ⟨_, if_pos rfl⟩)) (fun b u z => ?_) (fun b z => ?_) fun _ => hk
    · by_cases h : b = a
      · exact .inr ⟨_, _, if_pos h⟩
      · exact .inl (if_neg h)
    · obtain ⟨rfl, rfl⟩ := at1 z
      exact ⟨obj, by rw [List.length_map]; exact len, vs, _, rv, obj⟩
    · by_cases h : b = a
      · exact h
      · exact absurd (if_neg h) z
theorem walk_G {l : PySem.W.OpenLaw} {n k : Nat} {q : Program} {loose : List Str} {XP : (Str → Option Value) → Heap → Prop} {YP : World → Heap → Prop} {d : DefRec} {CX : CXT} {x : Str} (hn : l.most = some n) (hn2 : n ≤ sizeLine) (nd : d.params.defaults = []) (room : Room k callerA)
    (F : ∀ (w : World) (mg : Str → Option Value) (fa : Addr) (h : Heap), YP w h → h.Ns mainGlobals mg → mg d.name = some (.ref fa) → ∃ (K : PySem.W.Frag) (fd : FuncData) (sp : Sp), K.In h ∧ (∀ (s : Shared) (u : Value), BindsTo s fd ⟨[u], []⟩ [(x, u)]) ∧ (∀ (H : Hp) (a : Addr) (is : List Int), is.length ≤ n → Only H → SqL K H a (is.map V.int) → sp [.ref a] H (fun v _ => v = .bl true) fun _ _ _ => False) ∧ ∀ b0 : Heap, K.In b0 → b0.Ns mainGlobals mg → FnG l.prog w K mg b0 CX k fa fd [x] sp)
    (noX : ∀ (H : Hp) (s : Shared) (e : Value) (s' : Shared), CX [] H s (fun _ _ _ => False) e s' → False) : PySem.W.WalkO q loose XP YP l.row.toRowW d [] (fun f vs => PySem.call f vs) := by
  refine Att.attach_call hn nd fun w s₀ s₁ mg mb fa o pm cd doc a vs is G Y ho hd hcd hmg obj itg hlen gn => ?_
  obtain ⟨K, fd, sp, inK, bind, prom, hF⟩ := F w mg fa _ Y G.T.g hmg
  exact law_G inK G.T.g G.T.b G.T.builtins G.T.nolimit gn obj itg (Nat.le_trans hlen hn2) room hF bind (fun H only sq => prom H a is hlen only sq) fun H e s' => noX H s₁ e s'
end Mir

/-! Mir13: instances of a class whose __init__ stores its attributes once -/
namespace Mir
open PySem L2
def ClsN (K : PySem.W.Frag) (C : Addr) (all : List Str) : Prop := Cls K C ∧ ∀ f ∈ all, NoAttr K C f
abbrev Ps (H : Hp) (ps : List PV) (vs : List V) : Prop := All2 (fun (p : PV) v => p.r H v) ps vs
theorem ps_up {H H' : Hp} {ps : List PV} {vs : List V} (e : Ex H H') (h : Ps H ps vs) : Ps H' ps vs := h.imp fun p _ q => p.up e q
/-- a made instance, read only -/
def insR (K : PySem.W.Frag) (all ns : List Str) (ps : List PV) (H : Hp) (v : V) : Prop := ∃ a C dx vs, v = .ref a ∧ H a = some (.ins C dx (ns.zip vs)) ∧ ClsN K C all ∧ Ps H ps vs
theorem insR_up {K : PySem.W.Frag} {all ns : List Str} {ps : List PV} {H H' : Hp} {v : V} (e : Ex H H') : insR K all ns ps H v → insR K all ns ps H' v := fun ⟨a, C, dx, vs, h1, h2, h3, h4⟩ => ⟨a, C, dx, vs, h1, e _ _ h2, h3, ps_up e h4⟩
/-- an instance that is being made -/
def insM (a C dx : Addr) (fs : List (Str × V)) : Hp := ov (sing a (.ins C dx fs)) (sing dx (.own a))
theorem upd_ins {a : Addr} {o o' : HO} {D M I : Hp} : upd (ov (ov (ov (sing a o) D) M) I) a o' = ov (ov (ov (sing a o') D) M) I := by
  rw [← ov_assoc (A := sing a o) (B := D) (C := M), upd_own, ov_assoc (A := sing a o') (B := D) (C := M)]
def oin (C : Addr) (ns : List Str) (ps : List PV) : OP := ⟨fun I a M => ∃ dx vs, dx ≠ a ∧ M = insM a C dx (ns.zip vs) ∧ Ps I ps vs, fun e ⟨dx, vs, h1, h2, h3⟩ => ⟨dx, vs, h1, h2, ps_up e h3⟩⟩
theorem zip_look {ns : List Str} {f : Str} : ∀ {i : Nat} {ps : List PV} {vs : List V} {H : Hp} {p : PV}, Ps H ps vs → ns.findIdx? (· == f) = some i → ps[i]? = some p → ∃ v, (ns.zip vs).lookup f = some v ∧ p.r H v := by
  induction ns with
  | nil => intro i ps vs H p _ h _; simp at h
  | cons n ns ih =>
    intro i ps vs H p hp h hi
    cases hp with
    | nil => simp at hi
    | cons h1 h2 =>
      rename_i q v ps vs
      rw [List.zip_cons_cons, List.lookup_cons]
      rw [List.findIdx?_cons] at h
      by_cases e : (n == f) = true
      · rw [if_pos e] at h
        cases h
        have e2 : (f == n) = true := by rw [LawfulBEq.eq_of_beq e]; exact beq_self_eq_true f
        rw [e2]
        cases hi
        exact ⟨v, rfl, h1⟩
      · rw [if_neg e] at h
        obtain ⟨j, hj, rfl⟩ := Option.map_eq_some_iff.mp h
        have e2 : (f == n) = false := by
          cases q : (f == n) with
          | false => rfl
          | true => exact absurd (by rw [LawfulBEq.eq_of_beq q]; exact beq_self_eq_true n) e
        rw [e2]
        exact ih h2 hj (by simpa using hi)
section
variable {K : PySem.W.Frag} {all ns : List Str} {ps : List PV} {f : Str} {i : Nat}
/-- o.f -/
theorem ep_fld {Γ : List Sl} {te : TE} {q p : PV} (h : EP te Γ q) (hq : ∀ H v, q.r H v → insR K all ns ps H v) (hi : ns.findIdx? (· == f) = some i) (hf : f ∈ all) (hp : ps[i]? = some p) : EP (tFld K te f) Γ p := fun I F N σ e d Q k =>
  h I F N σ e d _ fun v I1 a1 d1 r1 => by
    obtain ⟨a, C, dx, vs, h1, h2, h3, h4⟩ := hq _ _ r1
    obtain ⟨u, g1, g2⟩ := zip_look h4 hi hp
    exact ⟨a, C, dx, _, u, h1, ex_ov d1 _ _ h2, h3.1, h3.2 f hf, g1, k u I1 a1 d1 g2⟩
/-- self.f, while it is made -/
theorem ep_fldO {Γ : List Sl} {C : Addr} {j : Nat} {w : V} {p : PV} (hj : Γ[j]? = some (.ow ((oin C ns ps).at w))) (hc : ClsN K C all) (hi : ns.findIdx? (· == f) = some i) (hf : f ∈ all) (hp : ps[i]? = some p) : EP (tFld K (tVar j) f) Γ p := fun I F N σ e d Q k => by
  obtain ⟨a, Ma, M', h1, ⟨_, dx, vs, h2, h3, h4⟩, h5, h6⟩ := e.foc hj
  obtain ⟨u, g1, g2⟩ := zip_look h4 hi hp
  refine ⟨_, h1, a, C, dx, _, u, rfl, ?_, hc.1, hc.2 f hf, g1, k u I (Ex.refl I) d g2⟩
  rw [h6, h3]
  exact ov_l (ov_l (ov_l sing_same))
theorem putF_new : ∀ {ns : List Str} {vs : List V} {y : V}, ns.length = vs.length → f ∉ ns → putF f y (ns.zip vs) = (ns ++ [f]).zip (vs ++ [y])
  | [], [], y, _, _ => rfl
  | n :: ns, v :: vs, y, hl, hn => by
    have h1 : ¬ n = f := fun e => hn (e ▸ List.mem_cons_self ..)
    have ih := putF_new (ns := ns) (vs := vs) (y := y) (by simpa using hl) fun h => hn (List.mem_cons_of_mem _ h)
    show (if n = f then (n, y) :: ns.zip vs else (n, v) :: putF f y (ns.zip vs)) = (n, v) :: (ns ++ [f]).zip (vs ++ [y])
    rw [if_neg h1, ih]
  | [], _ :: _, _, h, _ => by simp at h
  | _ :: _, [], _, h, _ => by simp at h
/-- self.f = e, a new attribute -/
theorem rp_fldI {S α : Type} [SH S] [Rp α] {Γ : S → List Sl} {te : TE} {C : Addr} {j : Nat} {w : V} {m : Mn S α} {Γ' : α → S → List Sl} (hj : ∀ s, (Γ s)[j]? = some (.ow ((oin C ns ps).at w))) (hl : ns.length = ps.length) (hc : ClsN K C all) (hf : f ∈ all) (hn : f ∉ ns) (h9 : ns.length < 1000) (h : EM K te Γ m) (hΓ : ∀ x s, (Γ s).set j (.ow ((oin C (ns ++ [f]) (ps ++ [pv K x])).at w)) = Γ' x s) : RP (sFld K (tVar j) te f) Γ m Γ' := fun s I F N σ e d D q =>
  h s I F N σ e d _ (R.sat_imp q fun x s1 q v I1 N1 a1 d1 e1 r1 => by
    obtain ⟨a, Ma, M', h1, ⟨hw, dx, vs, h2, h3, h4⟩, h5, h6, h7, _⟩ := e1.foc (hj s1)
    subst h6 h3
    obtain ⟨y1, y2⟩ := dis_ov_l d1
    have hv : ns.length = vs.length := by rw [hl]; exact h4.length
    refine ⟨_, h1, a, C, dx, _, rfl, ov_l (ov_l (ov_l sing_same)), hc.1, hc.2 f hf, ?_, ?_⟩
    · rw [List.length_zip, ← hv, Nat.min_self]; exact h9
    · rw [putF_new hv hn]
      have dN : Dis (insM a C dx ((ns ++ [f]).zip (vs ++ [v]))) M' := fun b => by
        rcases h5 b with z | z
        · left
          obtain ⟨z1, z2⟩ := ov_none z
          refine ov_none' ?_ z2
          by_cases eb : b = a
          · subst eb; rw [sing_same] at z1; cases z1
          · exact sing_ne eb
        · exact .inr z
      have dI : Dis (insM a C dx ((ns ++ [f]).zip (vs ++ [v]))) I1 := fun b => by
        rcases y1 b with z | z
        · left
          obtain ⟨z1, z2⟩ := ov_none z
          refine ov_none' ?_ z2
          by_cases eb : b = a
          · subst eb; rw [sing_same] at z1; cases z1
          · exact sing_ne eb
        · exact .inr z
      have e2 : upd (ov (ov (insM a C dx (ns.zip vs)) M') I1) a (.ins C dx ((ns ++ [f]).zip (vs ++ [v]))) = ov (ov (insM a C dx ((ns ++ [f]).zip (vs ++ [v]))) M') I1 := by
        exact upd_ins
      rw [e2]
      refine q I1 _ σ a1 (dis_ov dI y2) ?_
      rw [← hΓ]
      exact h7 I1 _ _ (Ex.refl I1) dN ⟨hw, dx, _, h2, rfl, h4.append (.cons r1 .nil)⟩)
/-! ### what __init__ promises; C(e, ..) -/
def PromI {α ι : Type} (C : Addr) (ns : List Str) (As : ι → List PV) (m : ι → Mn Unit α) (fl : α → List PV) : Sp := fun vs H Q _ => ∃ (i : ι) (I N : Hp) (a dx : Addr) (us : List V), vs = .ref a :: us ∧ dx ≠ a ∧ H = ov (ov (insM a C dx []) N) I ∧ Dis (insM a C dx []) N ∧ Dis (ov (insM a C dx []) N) I ∧ Ps I (As i) us ∧
  (m i ()).sat fun x _ => ∀ I' M', Ex I I' → (oin C ns (fl x)).r I' a M' → Dis M' N → Dis (ov M' N) I' → Q .non (ov (ov M' N) I')
theorem promI_len {α ι : Type} {C : Addr} {As : ι → List PV} {m : ι → Mn Unit α} {fl : α → List PV} {n : Nat} (h : ∀ i, (As i).length = n) : ∀ vs H Q E, PromI C ns As m fl vs H Q E → vs.length = n + 1 := fun vs H Q E ⟨i, I, N, a, dx, us, h1, _, _, _, _, h5, _⟩ => by
  rw [h1, List.length_cons, ← h5.length, h i]
theorem eo_make {S ζ α ι : Type} [SH S] {Γ : S → List Sl} {ta : TA} {E : XK} {C : Addr} {As : ι → List PV} {m : ι → Mn Unit α} {fl : α → List PV} {mm : Mn S ζ} {psf : ζ → List PV} {g : ζ → ι} (h : AM ta Γ mm psf) (hA : ∀ z, As (g z) = psf z) : EO (tMake C (PromI C ns As m fl) [] E ta) Γ (mb mm fun z => mu (m (g z))) (rOw fun x => oin C ns (fl x)) := fun s I F N σ e d Q q =>
  h s I F N σ e d _ (R.sat_imp (sat_mb.mp q) fun z s1 q vs I1 N1 a1 d1 e1 r1 => fun x dx hx hdx hne => by
    obtain ⟨x1, x2⟩ := ov_none hx
    obtain ⟨z1, z2⟩ := ov_none hdx
    have eH : upd (upd (ov N1 I1) dx (.own x)) x (.ins C dx []) = ov (ov (insM x C dx []) N1) I1 := by
      unfold insM
      rw [upd_sing, upd_sing, ov_assoc, ov_assoc]
    have dN : Dis (insM x C dx []) N1 := dis_ov (dis_sing x1) (dis_sing z1)
    have dI : Dis (insM x C dx []) I1 := dis_ov (dis_sing x2) (dis_sing z2)
    rw [List.append_nil, eH]
    refine ⟨g z, I1, N1, x, dx, vs, rfl, hne, rfl, dN, dis_ov dI d1, by rw [hA]; exact r1, R.sat_imp (sat_mu.mp q) fun y _ q I2 M2 a2 o2 d2 d3 => ⟨rfl, ?_⟩⟩
    exact q _ _ I2 N1 (a1.trans a2) (e1.up a2) ⟨x, M2, rfl, d2, d3, rfl, o2⟩)
/-- what was made, kept as a value -/
theorem fr_oin {C : Addr} (hc : ClsN K C all) : ∀ I a Ma, Dis Ma I → (oin C ns ps).r I a Ma → insR K all ns ps (ov Ma I) (.ref a) := fun I a Ma d ⟨dx, vs, h1, h2, h3⟩ => ⟨a, C, dx, vs, rfl, by rw [h2]; exact ov_l (ov_l sing_same), hc, ps_up (ex_ov d) h3⟩
/-- __init__ keeps its promise -/
theorem promI_ok {α ι : Type} {C : Addr} {As : ι → List PV} {m : ι → Mn Unit α} {fl : α → List PV} {t : TS} {N : List Str} {v : V} {us : List V} {H : Hp} {Q : VK} {E : XK} {n : Nat} (k : Nat) (hA : ∀ i, (As i).length = n) (hk : N.length - (n + 1) = k)
    (h : ∀ i, RP t (fun _ => .ow ((oin C [] []).at v) :: ((As i).map Sl.im ++ List.replicate k .no)) (m i) (fun x _ => .ow ((oin C ns (fl x)).at v) :: (List.replicate n .no ++ List.replicate k .no))) (p : PromI C ns As m fl (v :: us) H Q E) : t { nx := fun _ H' => Q .non H', rt := Q } (L2.start N (v :: us)) H := by
  have hl := promI_len hA _ H Q E p
  obtain ⟨i, I, M, a, dx, us', e0, hne, rfl, d1, d2, r, q⟩ := p
  obtain ⟨rfl, rfl⟩ := List.cons.inj e0
  have es : L2.start N (.ref a :: us) = some (.ref a) :: (us.map some ++ List.replicate k none) := by
    unfold L2.start
    rw [hl, hk]
    rfl
  rw [es]
  have ee : EnvOk I M (ov (insM a C dx []) M) (some (.ref a) :: (us.map some ++ List.replicate k none)) (.ow ((oin C [] []).at (.ref a)) :: ((As i).map Sl.im ++ List.replicate k .no)) :=
    .ow ⟨rfl, dx, [], hne, rfl, .nil⟩ d1 ((EnvOk.ims r).app k)
  refine h i () I M _ _ (EnvG.of ee) d2 _ (R.sat_imp q fun x _ q I' N' σ' a1 d3 e1 => ?_)
  have hno : ∀ {n k : Nat} {N2 : Hp} {σ : L2.St}, EnvOk I' M N2 σ (List.replicate n .no ++ List.replicate k .no) → N2 = M := fun {n k N2 σ} e => by
    rw [List.replicate_append_replicate] at e
    exact EnvOk.nos e
  cases e1.unit with
  | ow q1 d4 e4 =>
    cases hno e4
    obtain ⟨hw, q1⟩ := q1
    cases hw
    exact q I' _ a1 q1 d4 d3
end
end Mir

/-! Mir14: small things: None or not, compared; lists of mixed types; lists unpacked, turned round -/
namespace Mir
open PySem L2
/-- a type without None -/
class Nn (α : Type) [Rp α] : Prop where
  nn : ∀ {K : PySem.W.Frag} {x : α} {H : Hp} {v : V}, Rp.r K x H v → v ≠ .non
instance nnInt : Nn Int := ⟨fun h q => by rw [show _ = V.int _ from h] at q; cases q⟩
instance nnBool : Nn Bool := ⟨fun h q => by rw [show _ = V.bl _ from h] at q; cases q⟩
instance nnStr : Nn Str := ⟨fun h q => by rw [show _ = V.str _ from h] at q; cases q⟩
instance nnList {α : Type} [Rp α] : Nn (List α) := ⟨fun ⟨a, vs, h, _⟩ q => by rw [h] at q; cases q⟩
instance nnTu {α : Type} [Rp α] : Nn (Tu α) := ⟨fun ⟨a, vs, h, _⟩ q => by rw [h] at q; cases q⟩
instance nnProd {α β : Type} [Rp α] [Rp β] : Nn (α × β) := ⟨fun ⟨a, v1, v2, h, _⟩ q => by rw [h] at q; cases q⟩
instance nnT3 {α β γ : Type} [Rp α] [Rp β] [Rp γ] : Nn (T3 α β γ) := ⟨fun ⟨a, v1, v2, v3, h, _⟩ q => by rw [h] at q; cases q⟩
instance nnT4 {α β γ δ : Type} [Rp α] [Rp β] [Rp γ] [Rp δ] : Nn (T4 α β γ δ) := ⟨fun ⟨a, v1, v2, v3, v4, h, _⟩ q => by rw [h] at q; cases q⟩
section
variable {K : PySem.W.Frag}
theorem ep_someN {α : Type} [Rp α] [Nn α] {Γ : List Sl} {te : TE} {x : α} (h : EP te Γ (pv K x)) : EP te Γ (pv K (some x)) := ep_some (fun _ _ q => Nn.nn q) h
theorem em_someN {S α : Type} [SH S] [Rp α] [Nn α] {Γ : S → List Sl} {te : TE} {m : Mn S α} (h : EM K te Γ m) : EM K te Γ (mb m fun x => mp (some x)) := em_some (fun _ _ _ q => Nn.nn q) h
end
instance scOptI : Sc (Option Int) := ⟨fun x => match x with
  | none => V.non
  | some i => V.int i, fun {K x H v} => by
    cases x with
    | none => exact Iff.rfl
    | some i => exact ⟨fun h => h.1, fun h => ⟨h, fun q => by rw [show v = V.int i from h] at q; cases q⟩⟩⟩
instance eqsOptI : Eqs (Option Int) := ⟨fun x y => by cases x <;> cases y <;> rfl, fun x y h => by
  cases x with
  | none => cases y with
    | none => rfl
    | some j => cases h
  | some i => cases y with
    | none => cases h
    | some j => cases (V.int.inj h); rfl⟩
/-! ### data of more types -/
instance dtBool : Dt Bool := ⟨.bool, fun h => by rw [show _ = V.bl _ from h]; exact .bl _, fun _ => by simp [PyData.canLay0], 0, fun _ => by simp [PyData.depth], fun x y => by simp [PyData.eqv]⟩
instance dtOptI : Dt (Option Int) := ⟨fun x => match x with
  | none => .none
  | some i => .int i, fun {K x H v} h => by
    cases x with
    | none => rw [show v = V.non from h]; exact .non
    | some i => rw [show v = V.int i from h.1]; exact .int _, fun x => by cases x <;> simp [PyData.canLay0], 0, fun x => by cases x <;> simp [PyData.depth], fun x y => by cases x <;> cases y <;> simp [PyData.eqv]⟩
/-- a list of three of mixed types -/
structure L3 (α β γ : Type) where
  a : α
  b : β
  c : γ
  deriving DecidableEq
instance rpL3 {α β γ : Type} [Rp α] [Rp β] [Rp γ] : Rp (L3 α β γ) := ⟨fun K x H v => ∃ p v1 v2 v3, v = V.ref p ∧ H p = some (.lst [v1, v2, v3]) ∧ Rp.r K x.a H v1 ∧ Rp.r K x.b H v2 ∧ Rp.r K x.c H v3,
  fun e ⟨p, v1, v2, v3, h1, h2, h3, h4, h5⟩ => ⟨p, v1, v2, v3, h1, e _ _ h2, Rp.up e h3, Rp.up e h4, Rp.up e h5⟩⟩
instance dtL3 {α β γ : Type} [Rp α] [Rp β] [Rp γ] [Dt α] [Dt β] [Dt γ] : Dt (L3 α β γ) := ⟨fun x => .list [Dt.dt x.a, Dt.dt x.b, Dt.dt x.c], fun ⟨p, v1, v2, v3, h1, h2, h3, h4, h5⟩ => by
    rw [h1]
    exact .lst (SqL.of h2) (.cons (Dt.rel h3) (.cons (Dt.rel h4) (.cons (Dt.rel h5) .nil))), fun x => by simp [PyData.canLay0, PyData.canLayAll0, Dt.lay], max (Dt.dep α) (max (Dt.dep β) (Dt.dep γ)) + 1, fun x => by
    have h1 := Dt.dpt x.a
    have h2 := Dt.dpt x.b
    have h3 := Dt.dpt x.c
    simp [PyData.depth, PyData.depthAll]
    omega, fun x y => by
    have h1 := Dt.eqv x.a y.a
    have h2 := Dt.eqv x.b y.b
    have h3 := Dt.eqv x.c y.c
    obtain ⟨a, b, c⟩ := x
    obtain ⟨a', b', c'⟩ := y
    simp only at h1 h2 h3
    simp [PyData.eqv, PyData.eqvAll, h1, h2, h3]⟩
section
variable {K : PySem.W.Frag} {S α β γ ζ : Type} [SH S] [Rp α] [Rp β] [Rp γ]
theorem em_l3 {Γ : S → List Sl} {ta : TA} {m : Mn S ζ} {f : ζ → L3 α β γ} (h : AM ta Γ m fun z => [pv K (f z).a, pv K (f z).b, pv K (f z).c]) : EM K (tLst ta) Γ (mb m fun z => mp (f z)) := fun s I F N σ e d Q q =>
  h s I F N σ e d _ (R.sat_imp (sat_mb.mp q) fun z s1 q vs I1 N1 a1 d1 e1 r1 => by
    obtain ⟨v1, _, rfl, r5, r⟩ := all2_c r1
    obtain ⟨v2, _, rfl, r2, r⟩ := all2_c r
    obtain ⟨v3, _, rfl, r3, r⟩ := all2_c r
    cases all2_n r
    refine ⟨sz2 (by show 3 ≤ 1000; decide), fun p hp => ?_⟩
    obtain ⟨h1, h2⟩ := ov_none hp
    have ex : Ex I1 (upd I1 p (.lst [v1, v2, v3])) := Ex.new h2
    rw [ov_upd h1]
    exact q _ _ N1 (a1.trans ex) (dis_upd d1 h1) (e1.up ex) ⟨p, v1, v2, v3, rfl, upd_same, Rp.up ex r5, Rp.up ex r2, Rp.up ex r3⟩)
theorem of_rs {I : Hp} : ∀ {w : List α} {vs : List V}, Rs K w I vs → All2 (fun (p : PV) v => p.r I v) (w.map (pv K)) vs
  | _, _, .nil => .nil
  | _, _, .cons h t => .cons h (of_rs t)
/-- a, b, .. = a list -/
theorem rp_unpL {Γ : S → List Sl} {te : TE} {m : Mn S (List Int)} {Γ' : List Int → S → List Sl} {n : Nat} (js : List Nat) (h : EM K te Γ m) (hj : ∀ s, asgOk (Γ s) js n) (hΓ : ∀ w s, setG (Γ s) js ((List.range n).map fun i => .im (pv K (w.getD i 0))) = Γ' w s) : RP (tAsg te (gLst K n (gNames js))) Γ (mb m fun w => mc (decide (w.length = n)) w) Γ' := fun s I F N σ e d D q =>
  h s I F N σ e d _ (R.sat_imp (sat_mb.mp q) fun w s1 q v I1 N1 a1 d1 e1 ⟨a, vs, h1, h2, h3⟩ => by
    obtain ⟨c, q⟩ := sat_mc.mp q
    have c : w.length = n := of_decide_eq_true c
    have hv : vs.length = n := by rw [← h3.length, c]
    subst h1
    refine ⟨a, vs, rfl, SqL.of (ex_ov d1 _ _ h2), hv, gNames_ok js vs σ _ _ (hv.trans (hj s1).1.symm) ?_⟩
    refine q I1 N1 _ a1 d1 ?_
    rw [← hΓ]
    have e3 : All2 (fun (p : PV) v => p.r I1 v) ((List.range n).map fun i => pv K (w.getD i 0)) vs := by
      have hw : (List.range n).map (fun i => pv K (w.getD i 0)) = w.map (pv K) := by
        apply List.ext_getElem
        · simp [c]
        · intro i g1 g2
          simp only [List.length_map] at g2
          simp [List.getD_eq_getElem?_getD, List.getElem?_eq_getElem g2]
      rw [hw]
      exact of_rs h3
    have e4 : EnvOk I1 N1 N1 (vs.map some) ((List.range n).map fun i => Sl.im (pv K (w.getD i 0))) := by
      have := EnvOk.ims (I := I1) (F := N1) e3
      rw [List.map_map] at this
      exact this
    exact EnvG.takes e1 e4 (by simp [(hj s1).1]) (hj s1).2.1 (hj s1).2.2 (fun c hc => by
      obtain ⟨i, _, rfl⟩ := List.mem_map.mp hc
      exact fun q => nomatch q))
end
end Mir

/-! Mir15: list(range(a, b, c)), len(range(a, b, c)), c positive -/
namespace Mir
open PySem PySem.Spec PyProof.Rows L2
/-- how many: c positive -/
def rgN (a b c : Int) : Nat := if a < b then ((b - a - 1) / c + 1).toNat else 0
def rgC (a b c : Int) : List Int := (List.range (rgN a b c)).map fun i => a + (i : Nat) * c
def rgCok (a b c : Int) : Bool := decide (0 < c) && Builtin.Range.small a b c && decide (c.natAbs < 1073741824) && decide (rgN a b c ≤ 2 ^ 24)
theorem rgCok_at {a b c : Int} (h : rgCok a b c = true) : 0 < c ∧ Builtin.Range.small a b c = true ∧ c.natAbs < 1073741824 ∧ rgN a b c ≤ 2 ^ 24 := by
  unfold rgCok at h
  rw [Bool.and_eq_true, Bool.and_eq_true, Bool.and_eq_true] at h
  exact ⟨of_decide_eq_true h.1.1.1, h.1.1.2, of_decide_eq_true h.1.2, of_decide_eq_true h.2⟩
theorem rgN_size {a b c : Int} (h : 0 < c) : Builtin.Range.rangeSize a b c = (rgN a b c : Nat) := by
  unfold Builtin.Range.rangeSize rgN
  rw [if_pos h]
  by_cases e : a < b
  · rw [if_pos e, if_pos e]
    have : 0 ≤ (b - a - 1) / c := Int.ediv_nonneg (by omega) (by omega)
    omega
  · rw [if_neg e, if_neg e]
    rfl
section
variable {X : Cx} {a b c : Expr} {ta : TA} {p pos : Pos}
/-- an expression that makes a range of three -/
def tRg3 (ta : TA) : L2.St → Hp → (Int → Int → Int → Hp → Prop) → Prop := fun σ H Q => ta σ H fun vs H1 => ∃ i j k, vs = [.int i, .int j, .int k] ∧ k ≠ 0 ∧ k.natAbs < 1073741824 ∧ Q i j k H1
def PRg3 (X : Cx) (e : Expr) (t : L2.St → Hp → (Int → Int → Int → Hp → Prop) → Prop) : Prop :=
  ∀ (pins : List (Addr × Obj)) (s : Shared) (σ : L2.St) (H : Hp) (Q : Int → Int → Int → Hp → Prop), Inv X pins σ H s → t σ H Q → wpAny (model X.prog X.w) X.A (eval e X.env) (fun x s' => ∃ r i j k t u v H', x = .ref r ∧ IsRange s'.heap r i j k t u v ∧ Inv X pins σ H' s' ∧ Q i j k H') X.xe s
theorem prg_3 (hg : Gl X "range") (hm : X.mg "range" = none) (ha : PA X [a, b, c] ta) (hs : starEach [a, b, c] X.env = (false, eval a X.env) :: starEach [b, c] X.env := by rfl) (hpl : (backTo pos (starEach [b, c] X.env)).any (·.1) = false := by rfl) : PRg3 X (.Call (.Name "range" p) [a, b, c] [] pos) (tRg3 ta) := fun pins s σ H Q I h => by
  have h2 : ta σ H fun vs H1 => ∃ i j k, vs = [.int i, .int j, .int k] ∧ k ≠ 0 ∧ k.natAbs < 1073741824 ∧ Q i j k H1 := h
  refine Call_ (ld_blt I hg hm boot_range (PyProof.Rows.callWith_type1 (thn (ha.run pos pins s σ H _ I h2) fun us s1 ⟨vs, H1, I1, r1, q1⟩ => ?_) hs hpl))
  obtain ⟨i, j, k, e, k0, k1, q⟩ := q1
  subst e
  cases r1 with
  | cons r rr =>
    cases rr with
    | cons r' rr =>
      cases rr with
      | cons r'' rr =>
        cases rr
        obtain ⟨t, rfl⟩ := r
        obtain ⟨t', rfl⟩ := r'
        obtain ⟨t'', rfl⟩ := r''
        exact call_range_3 k0 ⟨_, i, j, k, _, _, _, H1, rfl, IsRange.new _ _ _ _ _ _ _, I1.kept fun b u e => Heap.get?_push_of_some _ e, q⟩ (.inl (PyProof.noPylong_small k1))
def tLstRg3 (te : L2.St → Hp → (Int → Int → Int → Hp → Prop) → Prop) : TE := fun σ H Q => te σ H fun i j k H1 => rgCok i j k = true ∧ ∀ q, H1 q = none → Q (.ref q) (upd H1 q (.lst ((rgC i j k).map V.int)))
def tLenRg3 (te : L2.St → Hp → (Int → Int → Int → Hp → Prop) → Prop) : TE := fun σ H Q => te σ H fun i j k H1 => rgCok i j k = true ∧ Q (.int (rgN i j k)) H1
variable {e : Expr} {te : L2.St → Hp → (Int → Int → Int → Hp → Prop) → Prop}
theorem pe_listRg3 (hc : X.calm = true) (hg : Gl X "list") (hm : X.mg "list" = none) (he : PRg3 X e te) (na : starEach [e] X.env = (false, eval e X.env) :: starEach [] X.env := by rfl) : PE X (.Call (.Name "list" p) [e] [] pos) (tLstRg3 te) := ⟨fun pins s σ H Q I h => by
  refine Call_ (ld_blt I hg hm boot_list (PyProof.Rows.callWith_type1 (args_cons (thn (he pins s σ H _ I h) fun x s1 ⟨r, i, j, k, t, u, v, H1, ex, hr, I1, ok, q⟩ => args_nil ?_) na) na))
  subst ex
  obtain ⟨c1, c2, c3, c4⟩ := rgCok_at ok
  refine call_list_range (n := rgN i j k) (I1.ok.hd hc) hr c2 (rgN_size c1) c4 fun h' tk acc n' hk e' hi => ⟨.ref s1.heap.objs.size, upd H1 s1.heap.objs.size (.lst ((rgC i j k).map V.int)), I1.laid hk (Nat.le_refl _) (show ObjOk X.prog X.w _ _ _ (.lst _) from ⟨?_, acc.toList, n', ?_, ?_⟩), rfl, q _ (I1.hok.fresh (Nat.le_refl _))⟩
  · rw [List.length_map]
    unfold rgC
    rw [List.length_map, List.length_range, sizeLine_eq]
    omega
  · have el : acc.toList.length = rgN i j k := by rw [Array.length_toList]; exact hi.1
    unfold rgC
    rw [List.map_map, ← el]
    refine vals_of_get acc.toList _ fun j' u' hj => ?_
    obtain ⟨t', rfl⟩ := hi.2 j' u' (by rw [← hj, Array.getElem?_toList])
    exact ⟨t', rfl⟩
  · rw [Array.toArray_toList]; exact e'⟩
theorem pe_lenRg3 (hg : Gl X "len") (hm : X.mg "len" = none) (he : PRg3 X e te) (na : starEach [e] X.env = (false, eval e X.env) :: starEach [] X.env := by rfl) : PE X (.Call (.Name "len" p) [e] [] pos) (tLenRg3 te) := ⟨fun pins s σ H Q I h => by
  refine Call_ (ld_blt I hg hm boot_len (PyProof.Rows.callWith_builtin1 (args_cons (thn (he pins s σ H _ I h) fun x s1 ⟨r, i, j, k, t, u, v, H1, ex, hr, I1, ok, q⟩ => args_nil ?_) na) na))
  subst ex
  obtain ⟨c1, c2, c3, c4⟩ := rgCok_at ok
  exact call_len_range (n := rgN i j k) hr (rgN_size c1) (by omega) ⟨.int _, H1, I1.tok _, ⟨_, rfl⟩, q⟩⟩
end
end Mir

/-! Mir16: attributes as targets; a class packed -/
namespace Mir
open PySem PySem.Spec PyProof.Rows L2
def gFld (K : PySem.W.Frag) (to : TE) (f : Str) : TG := fun v σ H Q => to σ H fun x H1 => ∃ a C dx fs, x = .ref a ∧ H1 a = some (.ins C dx fs) ∧ Cls K C ∧ NoAttr K C f ∧ fs.length < 1000 ∧ Q σ (upd H1 a (.ins C dx (putF f v fs)))
theorem pg_fldA {X : Cx} {o : Expr} {to : TE} {f : Str} {pos : Pos} (ho : PE X o to) (ha : ∀ v, assign (.Attribute o f pos) X.env v = (do let ov ← holding [v] (eval o X.env); standAt pos.atName; holding [v, ov] (setAttr ov f v); release [v, ov] []) := by intro _; rfl) : PG X (.Attribute o f pos) (gFld X.K to f) := by
  refine ⟨fun pins s σ H v u Q I r h => ?_⟩
  rw [ha]
  refine wpAny_bind (wpAny_holding (thn (ho.run pins s σ H _ I h) fun ov s1 ⟨x, H1, I1, r1, a, C, dx, fs, ex, ea, c, n, l, q⟩ => ?_))
  subst ex
  obtain rfl : ov = Value.ref a := r1
  exact wpAny_bind (wpAny_standAt (wpAny_bind (wpAny_holding (setattr_ok I1 ea c n l r fun s2 I2 => wpAny_release ⟨σ, _, I2, q⟩))))
section
variable {K : PySem.W.Frag} {all ns : List Str} {ps : List PV} {f f1 f2 : Str}
/-- an attribute more -/
theorem fld_step {S : Type} [SH S] {s : S} {α : Type} [Rp α] {x : α} {I F N : Hp} {Γs : List Sl} {σ : L2.St} {C : Addr} {j : Nat} {w v : V} (hj : Γs[j]? = some (.ow ((oin C ns ps).at w))) (hl : ns.length = ps.length) (hc : ClsN K C all) (hf : f ∈ all) (hn : f ∉ ns) (h9 : ns.length < 1000) (e : EnvG s I F N σ Γs) (d : Dis N I) (r : Rp.r K x I v) :
    ∃ a dx fs, σ[j]? = some (some (.ref a)) ∧ ov N I a = some (.ins C dx fs) ∧ Cls K C ∧ NoAttr K C f ∧ fs.length < 1000 ∧ ∃ N', upd (ov N I) a (.ins C dx (putF f v fs)) = ov N' I ∧ Dis N' I ∧ EnvG s I F N' σ (Γs.set j (.ow ((oin C (ns ++ [f]) (ps ++ [pv K x])).at w))) := by
  obtain ⟨a, Ma, M', h1, ⟨hw, dx, vs, h2, h3, h4⟩, h5, h6, h7, _⟩ := e.foc hj
  subst h6 h3
  obtain ⟨y1, y2⟩ := dis_ov_l d
  have hv : ns.length = vs.length := by rw [hl]; exact h4.length
  have keep : ∀ {B : Hp}, Dis (insM a C dx (ns.zip vs)) B → Dis (insM a C dx ((ns ++ [f]).zip (vs ++ [v]))) B := fun {B} q b => by
    rcases q b with z | z
    · left
      obtain ⟨z1, z2⟩ := ov_none z
      refine ov_none' ?_ z2
      by_cases eb : b = a
      · subst eb; rw [sing_same] at z1; cases z1
      · exact sing_ne eb
    · exact .inr z
  refine ⟨a, dx, _, h1, ov_l (ov_l (ov_l sing_same)), hc.1, hc.2 f hf, by rw [List.length_zip, ← hv, Nat.min_self]; exact h9, _, ?_, dis_ov (keep y1) y2, h7 I _ _ (Ex.refl I) (keep h5) ⟨hw, dx, _, h2, rfl, h4.append (.cons r .nil)⟩⟩
  rw [putF_new hv hn]
  exact upd_ins
/-- self.f1, self.f2 = a pair -/
theorem rp_tupF2 {S α β : Type} [SH S] [Rp α] [Rp β] {Γ : S → List Sl} {te : TE} {C : Addr} {j : Nat} {w : V} {m : Mn S (α × β)} {Γ' : α × β → S → List Sl} (hj : ∀ s, (Γ s)[j]? = some (.ow ((oin C ns ps).at w))) (hj2 : ∀ s, j < (Γ s).length) (hl : ns.length = ps.length) (hc : ClsN K C all) (hf : f1 ∈ all) (hf2 : f2 ∈ all) (hn : f1 ∉ ns) (hn2 : f2 ∉ ns ++ [f1]) (h9 : ns.length < 998) (h : EM K te Γ m)
    (hΓ : ∀ x s, (Γ s).set j (.ow ((oin C (ns ++ [f1] ++ [f2]) (ps ++ [pv K x.1] ++ [pv K x.2])).at w)) = Γ' x s) : RP (tAsg te (gTup K 2 (gCons (gFld K (tVar j) f1) (gCons (gFld K (tVar j) f2) gNil)))) Γ m Γ' := fun s I F N σ e d D q =>
  h s I F N σ e d _ (R.sat_imp q fun x s1 q v I1 N1 a1 d1 e1 ⟨p, v1, v2, r1, r2, r3, r4⟩ => by
    refine ⟨p, _, r1, sqt_ov d1 r2, rfl, v1, _, rfl, ?_⟩
    obtain ⟨a, dx, fs, g1, g2, g3, g4, g5, N2, g6, g7, g8⟩ := fld_step (hj s1) hl hc hf hn (by omega) e1 d1 r3
    refine ⟨_, g1, a, C, dx, fs, rfl, g2, g3, g4, g5, v2, _, rfl, ?_⟩
    rw [g6]
    obtain ⟨a', dx', fs', k1, k2, k3, k4, k5, N3, k6, k7, k8⟩ := fld_step (j := j) (w := w) (f := f2) (all := all) (List.getElem?_set_self (hj2 s1)) (by rw [List.length_append, List.length_append, hl]; rfl) hc hf2 hn2 (by rw [List.length_append]; exact Nat.lt_trans (Nat.add_lt_add_right h9 1) (by decide)) g8 g7 r4
    refine ⟨_, k1, a', C, dx', fs', rfl, k2, k3, k4, k5, rfl, ?_⟩
    rw [k6]
    refine q I1 N3 σ a1 k7 ?_
    rw [← hΓ, ← List.set_set]
    exact k8)
end
/-- a class packed: C, its __init__ -/
structure MakC (P : Program) (w : World) (K : PySem.W.Frag) (mg : Str → Option Value) (base : Heap) (k : Nat) (x : Str) (all ps : List Str) (spf : Addr → Sp) : Prop where
  ex : ∃ (C f : Addr) (fd : FuncData), mg x = some (.ref C) ∧ Mk K C f ∧ ClsN K C all ∧ FnOk P w K mg base CX0 k f fd ps (spf C) ∧ Binds K fd ps []
end Mir

/-! Mir17: ranges of three, as lists, as lengths -/
namespace Mir
open PySem L2
section
variable {K : PySem.W.Frag} {S ζ : Type} [SH S] {Γ : S → List Sl} {ta : TA} {mm : Mn S ζ} {f g h : ζ → Int}
theorem three {I : Hp} {i j k : Int} {vs : List V} (r : All2 (fun (p : PV) v => p.r I v) [pv K i, pv K j, pv K k] vs) : vs = [.int i, .int j, .int k] := by
  obtain ⟨v1, _, rfl, r1, r⟩ := all2_c r
  obtain ⟨v2, _, rfl, r2, r⟩ := all2_c r
  obtain ⟨v3, _, rfl, r3, r⟩ := all2_c r
  cases all2_n r
  rw [show v1 = V.int i from r1, show v2 = V.int j from r2, show v3 = V.int k from r3]
theorem rgCok_c {i j k : Int} (h : rgCok i j k = true) : k ≠ 0 ∧ k.natAbs < 1073741824 := by
  obtain ⟨c1, _, c3, _⟩ := rgCok_at h
  exact ⟨by omega, c3⟩
theorem eo_listRg3 (hh : AM ta Γ mm fun z => [pv K (f z), pv K (g z), pv K (h z)]) : EO (tLstRg3 (tRg3 ta)) Γ (mb mm fun z => mc (rgCok (f z) (g z) (h z)) (rgC (f z) (g z) (h z))) (rOw (ol K)) := fun s I F N σ e d Q q =>
  hh s I F N σ e d _ (R.sat_imp (sat_mb.mp q) fun z s1 q vs I1 N1 a1 d1 e1 r1 => by
    obtain ⟨c, q⟩ := sat_mc.mp q
    obtain ⟨k0, k1⟩ := rgCok_c c
    exact ⟨_, _, _, three r1, k0, k1, c, fun p hp => q _ _ I1 N1 a1 e1 (new_list d1 hp rs_of_int)⟩)
theorem em_lenRg3 (hh : AM ta Γ mm fun z => [pv K (f z), pv K (g z), pv K (h z)]) : EM K (tLenRg3 (tRg3 ta)) Γ (mb mm fun z => mc (rgCok (f z) (g z) (h z)) ((rgN (f z) (g z) (h z) : Nat) : Int)) := fun s I F N σ e d Q q =>
  hh s I F N σ e d _ (R.sat_imp (sat_mb.mp q) fun z s1 q vs I1 N1 a1 d1 e1 r1 => by
    obtain ⟨c, q⟩ := sat_mc.mp q
    obtain ⟨k0, k1⟩ := rgCok_c c
    exact ⟨_, _, _, three r1, k0, k1, c, q _ I1 N1 a1 d1 e1 rfl⟩)
/-- xs.reverse() -/
theorem rp_revL {S α : Type} [SH S] [Rp α] {Γ : S → List Sl} {xs : List α} {j : Nat} {Γ' : List α → S → List Sl} (hj : ∀ s, (Γ s)[j]? = some (.ow (ol K xs))) (hΓ : ∀ ys s, (Γ s).set j (.ow (ol K ys)) = Γ' ys s) : RP (tDrop (tBM0 K "list" rReverse (tVar j))) Γ (mp xs.reverse) Γ' := fun s I F N σ e d D q => by
  obtain ⟨a, vs, h1, h2, h3⟩ := own_at e (hj s)
  refine ⟨_, h1, .inl ⟨rfl, vs, SqL.of (ov_l h2)⟩, a, vs, rfl, rfl, ov_l h2, ?_⟩
  obtain ⟨N2, x1, x2, x3⟩ := own_upd (P' := ol K xs.reverse) (us := vs.reverse) (vs := vs) (I' := I) (N' := N) e d (hj s) h1 ol_sing ⟨_, rfl, h3.reverse⟩
  rw [x1]
  exact q I N2 σ (Ex.refl I) x2 (by rw [← hΓ]; exact x3)
end
end Mir

/-! Mir18: max of three -/
namespace Mir
open PySem L2
def mx3 (i j k : Int) : Int := if (if i < j then j else i) < k then k else (if i < j then j else i)
theorem nuMax2_int (i j : Int) : nuMax2 (.int i) (.int j) = some (.int (if i < j then j else i)) := by
  show (some (decide (i < j))).map (fun c => if c = true then V.int j else V.int i) = _
  by_cases h : i < j
  · rw [decide_eq_true h, if_pos h]; rfl
  · rw [decide_eq_false h, if_neg h]; rfl
theorem c_max3 {K : PySem.W.Frag} {i j k : Int} : Cb (rNuC3 nuMax3) [pv K i, pv K j, pv K k] (pv K (mx3 i j k)) := fun I N vs Q d r q => by
  refine ⟨_, _, _, .int (mx3 i j k), three r, ?_, q _ I (Ex.refl I) d rfl⟩
  unfold nuMax3
  rw [nuMax2_int]
  exact nuMax2_int _ _
end Mir

/-! Mir19: a list or a tuple; owned comprehensions; owned or None; reversed, zip, enumerate; displays with a star -/
namespace Mir
open PySem L2
/-- a list or a tuple -/
structure Sq (α : Type) where
  t : Bool
  l : List α
  deriving DecidableEq
instance rpSq {α : Type} [Rp α] : Rp (Sq α) := ⟨fun K x H v => match x.t with
  | true => Rp.r K (Tu.mk x.l) H v
  | false => Rp.r K x.l H v, fun {K x H H' v} e h => by
    revert h
    cases x.t with
    | true => exact fun h => Rp.up e h
    | false => exact fun h => Rp.up e h⟩
theorem sq_ref {K : PySem.W.Frag} {α : Type} [Rp α] {x : Sq α} {H : Hp} {v : V} (h : Rp.r K x H v) : ∃ a vs, v = .ref a ∧ (x.t = false ∧ H a = some (.lst vs) ∨ x.t = true ∧ SqT K H a vs) ∧ Rs K x.l H vs := by
  obtain ⟨t, l⟩ := x
  cases t with
  | true =>
    obtain ⟨a, vs, h1, h2, h3⟩ := (show Rp.r K (Tu.mk l) H v from h)
    exact ⟨a, vs, h1, .inr ⟨rfl, h2⟩, h3⟩
  | false =>
    obtain ⟨a, vs, h1, h2, h3⟩ := (show Rp.r K l H v from h)
    exact ⟨a, vs, h1, .inl ⟨rfl, h2⟩, h3⟩
theorem sq_or {K : PySem.W.Frag} {α : Type} [Rp α] {x : Sq α} {I N : Hp} {v : V} (d : Dis N I) (h : Rp.r K x I v) : ∃ a vs, v = .ref a ∧ (SqL K (ov N I) a vs ∨ SqT K (ov N I) a vs) ∧ Rs K x.l I vs := by
  obtain ⟨a, vs, h1, h2, h3⟩ := sq_ref h
  rcases h2 with ⟨_, h2⟩ | ⟨_, h2⟩
  · exact ⟨a, vs, h1, .inl (SqL.of (ex_ov d _ _ h2)), h3⟩
  · exact ⟨a, vs, h1, .inr (sqt_ov d h2), h3⟩
section
variable {K : PySem.W.Frag} {S α β γ ρ ζ τ : Type} [SH S] [Rp α] [Rp β] [Rp γ] {Γ : S → List Sl} {Γ1 : List Sl} {te ta tb : TE} {tl : TA}
/-! a list, a tuple, as one or the other -/
theorem ep_sqL {xs : List α} (h : EP te Γ1 (pv K xs)) : EP te Γ1 (pv K (Sq.mk false xs)) := fun I F N σ e d Q q => h I F N σ e d Q fun v I1 a1 d1 r1 => q v I1 a1 d1 r1
theorem ep_sqT {xs : Tu α} (h : EP te Γ1 (pv K xs)) : EP te Γ1 (pv K (Sq.mk true xs.l)) := fun I F N σ e d Q q => h I F N σ e d Q fun v I1 a1 d1 r1 => q v I1 a1 d1 r1
theorem em_sqL {m : Mn S (List α)} (h : EM K te Γ m) : EM K te Γ (mb m fun x => mp (Sq.mk false x)) := fun s I F N σ e d Q q => h s I F N σ e d Q (R.sat_imp (sat_mb.mp q) fun x s1 q v I1 N1 a1 d1 e1 r1 => q v I1 N1 a1 d1 e1 r1)
theorem em_sqT {m : Mn S (Tu α)} (h : EM K te Γ m) : EM K te Γ (mb m fun x => mp (Sq.mk true x.l)) := fun s I F N σ e d Q q => h s I F N σ e d Q (R.sat_imp (sat_mb.mp q) fun x s1 q v I1 N1 a1 d1 e1 r1 => q v I1 N1 a1 d1 e1 r1)
/-! len, items, slices, in -/
theorem c_lenSq {xs : Sq α} : Cb (fun xs H Q => ∃ p ys, xs = [.ref p] ∧ (SqL K H p ys ∨ SqT K H p ys) ∧ Q (.int ys.length) H) [pv K xs] (pv K (xs.l.length : Int)) := cb1 fun I N v Q d h q => by
  obtain ⟨a, vs, h1, h2, h3⟩ := sq_or d h
  exact ⟨a, vs, by rw [h1], h2, q _ I (Ex.refl I) d (by rw [h3.length]; rfl)⟩
theorem o_ixSq {xs : Sq α} {i : Int} {x : α} (e : atI xs.l i = some x) : Op2 (fun x y H Q => rIxL K x y H Q ∨ rIxT K x y H Q) (pv K xs) (pv K i) (pv K x) := fun I M u w Q d h hy k => by
  obtain ⟨t, l⟩ := xs
  cases t with
  | true => exact .inr (o_ixT (xs := l) e I M u w Q d h hy k)
  | false => exact .inl (o_ixL (xs := l) e I M u w Q d h hy k)
theorem em_ixSqp {xs : Sq α} {i : Int} (ha : ∀ s, EP ta (Γ s) (pv K xs)) (hb : ∀ s, EP tb (Γ s) (pv K i)) : EM K (tOp (fun x y H Q => rIxL K x y H Q ∨ rIxT K x y H Q) ta tb) Γ (mo (atI xs.l i)) := fun s I F N σ e d Q q => by
  obtain ⟨x, hx, q⟩ := sat_mo.mp q
  exact ep_op (ha s) (hb s) (o_ixSq hx) I F N σ e d Q fun v I1 a1 d1 r1 => q v I1 N a1 d1 (e.up a1) r1
theorem em_ixSql {xs : Sq α} {m2 : Mn S Int} (ha : ∀ s, EP ta (Γ s) (pv K xs)) (hb : EM K tb Γ m2) : EM K (tOp (fun x y H Q => rIxL K x y H Q ∨ rIxT K x y H Q) ta tb) Γ (mb m2 fun i => mo (atI xs.l i)) := fun s I F N σ e d Q q =>
  ha s I F N σ e d _ fun v I1 a1 d1 r1 => hb s I1 F N σ (e.up a1) d1 _ (R.sat_imp (sat_mb.mp q) fun i s2 q u I2 N2 a2 d2 e2 r2 => by
    obtain ⟨x, hx, q⟩ := sat_mo.mp q
    exact o_ixSq hx I2 N2 v u Q d2 (Rp.up a2 r1) r2 fun w I3 a3 d3 r3 => q w I3 N2 ((a1.trans a2).trans a3) d3 (e2.up a3) r3)
theorem em_ixSqr {m1 : Mn S (Sq α)} {i : Int} (ha : EM K ta Γ m1) (hb : ∀ s, EP tb (Γ s) (pv K i)) : EM K (tOp (fun x y H Q => rIxL K x y H Q ∨ rIxT K x y H Q) ta tb) Γ (mb m1 fun xs => mo (atI xs.l i)) := fun s I F N σ e d Q q =>
  ha s I F N σ e d _ (R.sat_imp (sat_mb.mp q) fun xs s1 q v I1 N1 a1 d1 e1 r1 => hb s1 I1 F N1 σ e1 d1 _ fun u I2 a2 d2 r2 => by
    obtain ⟨x, hx, q⟩ := sat_mo.mp q
    exact o_ixSq hx I2 N1 v u Q d2 (Rp.up a2 r1) r2 fun w I3 a3 d3 r3 => q w I3 N1 ((a1.trans a2).trans a3) d3 (e1.up (a2.trans a3)) r3)
theorem o_inSq [Sc α] [Fl α] [DecidableEq α] {x : α} {xs : Sq α} : Op2 (rIn K false) (pv K x) (pv K xs) (pv K (decide (x ∈ xs.l))) := fun I N u v Q d hx h q => by
  obtain ⟨t, l⟩ := xs
  cases t with
  | true => exact o_inT (xs := Tu.mk l) I N u v Q d hx h q
  | false => exact o_in (xs := l) I N u v Q d hx h q
theorem o_notInSq [Sc α] [Fl α] [DecidableEq α] {x : α} {xs : Sq α} : Op2 (rIn K true) (pv K x) (pv K xs) (pv K (!decide (x ∈ xs.l))) := fun I N u v Q d hx h q => by
  obtain ⟨t, l⟩ := xs
  cases t with
  | true => exact o_notInT (xs := Tu.mk l) I N u v Q d hx h q
  | false => exact o_notIn (xs := l) I N u v Q d hx h q
/-- t[lo:hi] of a tuple -/
theorem cutL_whole {δ : Type} {xs : List δ} {lo hi : Option Int} (h1 : HT.sIx xs.length 0 lo = 0) (h2 : HT.sIx xs.length xs.length hi = xs.length) : cutL xs lo hi = xs := by
  unfold cutL
  rw [h1, h2]
  simp
def rSlSq (K : PySem.W.Frag) : V → Option Int → Option Int → Hp → VK → Prop := fun x lo hi H Q => rSlL K x lo hi H Q ∨ rSlA K x lo hi H Q
theorem sl_sq {X : Cx} : SlR X (rSlSq X.K) := SlR.or sl_list sl_tupA
theorem sl_val {xs : Sq α} {lo hi : Option Int} {I N : Hp} {v : V} {Q : VK} (d : Dis N I) (r : Rp.r K xs I v) (q : ∀ u I', Ex I I' → Dis N I' → Rp.r K (Sq.mk xs.t (cutL xs.l lo hi)) I' u → Q u (ov N I')) : rSlSq K v lo hi (ov N I) Q := by
  obtain ⟨t, l⟩ := xs
  cases t with
  | true =>
    obtain ⟨a, vs, h1, h2, h3⟩ := (show Rp.r K (Tu.mk l) I v from r)
    refine .inr ⟨a, vs, h1, sqt_ov d h2, fun ⟨w1, w2⟩ => ?_, fun hw p hp => ?_⟩
    · refine q _ I (Ex.refl I) d ?_
      show Rp.r K (Tu.mk (cutL l lo hi)) I (.ref a)
      rw [← h3.length] at w1 w2
      rw [cutL_whole w1 w2]
      exact ⟨a, vs, rfl, h2, h3⟩
    · obtain ⟨m1, m2, m3, m4⟩ := mk_tup (K := K) (vs := cutV vs lo hi) d hp
      rw [m4]
      exact q _ _ m1 m2 ⟨p, _, rfl, m3, rs_up m1 (rs_cut h3)⟩
  | false =>
    obtain ⟨a, vs, h1, h2, h3⟩ := (show Rp.r K l I v from r)
    refine .inl ⟨a, vs, h1, SqL.of (ex_ov d _ _ h2), fun p hp => ?_⟩
    obtain ⟨m1, m2, m3, m4⟩ := mk_list (K := K) (xs := cutL l lo hi) d hp (rs_cut h3)
    rw [m4]
    exact q _ _ m1 m2 m3
theorem ep_slSq {xs : Sq α} {lo hi : Option Int} {t1 t2 : TO} (h : EP te Γ1 (pv K xs)) (h1 : OPa t1 Γ1 lo) (h2 : OPa t2 Γ1 hi) : EP (tSl (rSlSq K) te t1 t2) Γ1 (pv K (Sq.mk xs.t (cutL xs.l lo hi))) := fun I F N σ e d Q q =>
  h I F N σ e d _ fun v I1 a1 d1 r1 => h1 I1 F N σ (e.up a1) d1 _ fun I2 a2 d2 => h2 I2 F N σ (e.up (a1.trans a2)) d2 _ fun I3 a3 d3 =>
    sl_val d3 (Rp.up (a2.trans a3) r1) fun u I4 a4 d4 r4 => q u I4 (((a1.trans a2).trans a3).trans a4) d4 r4
/-- a bound that may be bad -/
def OPm {S : Type} [SH S] (t : TO) (Γ : S → List Sl) (m : Mn S (Option Int)) : Prop := ∀ (s : S) (I F N : Hp) (σ : L2.St), EnvG s I F N σ (Γ s) → Dis N I → ∀ Q : Option Int → Hp → Prop, (m s).sat (fun o s' => ∀ I' N', Ex I I' → Dis N' I' → EnvG s' I' F N' σ (Γ s') → Q o (ov N' I')) → t σ (ov N I) Q
theorem pm_no : OPm (S := S) tNoPart Γ (mp none) := fun s I F N σ e d Q q => q I N (Ex.refl I) d e
theorem pm_i {m : Mn S Int} (h : EM K te Γ m) : OPm (tPart te) Γ (mb m fun i => mp (some i)) := fun s I F N σ e d Q q => h s I F N σ e d _ (R.sat_imp (sat_mb.mp q) fun i s1 q v I1 N1 a1 d1 e1 r1 => ⟨i, r1, q I1 N1 a1 d1 e1⟩)
theorem em_slSq {xs : Sq α} {m1 m2 : Mn S (Option Int)} {t1 t2 : TO} (h : ∀ s, EP te (Γ s) (pv K xs)) (h1 : OPm t1 Γ m1) (h2 : OPm t2 Γ m2) : EM K (tSl (rSlSq K) te t1 t2) Γ (mb m1 fun lo => mb m2 fun hi => mp (Sq.mk xs.t (cutL xs.l lo hi))) := fun s I F N σ e d Q q =>
  h s I F N σ e d _ fun v I1 a1 d1 r1 => h1 s I1 F N σ (e.up a1) d1 _ (R.sat_imp (sat_mb.mp q) fun lo s2 q I2 N2 a2 d2 e2 => h2 s2 I2 F N2 σ e2 d2 _ (R.sat_imp (sat_mb.mp q) fun hi s3 q I3 N3 a3 d3 e3 =>
    sl_val d3 (Rp.up (a2.trans a3) r1) fun u I4 a4 d4 r4 => q u I4 N3 (((a1.trans a2).trans a3).trans a4) d4 (e3.up a4) r4))
theorem tag_sl {t : Bool} {l : List α} {m1 m2 : Mn S (Option Int)} : ∀ s (Q : Sq α → S → Prop), ((mb m1 fun lo => mb m2 fun hi => mp (Sq.mk t (cutL l lo hi))) s).sat Q → ((mb m1 fun lo => mb m2 fun hi => mp (Sq.mk t (cutL l lo hi))) s).sat fun x s' => x.t = t ∧ Q x s' := fun s Q q =>
  sat_mb.mpr (R.sat_imp (sat_mb.mp q) fun lo s q => sat_mb.mpr (R.sat_imp (sat_mb.mp q) fun hi s q => ⟨rfl, q⟩))
/-- bounds that may be bad, of a list -/
theorem em_slL {m0 : Mn S (List α)} {m1 m2 : Mn S (Option Int)} {t1 t2 : TO} (h : EM K te Γ m0) (h1 : OPm t1 Γ m1) (h2 : OPm t2 Γ m2) : EM K (tSl (rSlL K) te t1 t2) Γ (mb m0 fun xs => mb m1 fun lo => mb m2 fun hi => mp (cutL xs lo hi)) := fun s I F N σ e d Q q =>
  h s I F N σ e d _ (R.sat_imp (sat_mb.mp q) fun xs s1 q v I1 N1 a1 d1 e1 ⟨a, vs, r1, r2, r3⟩ => h1 s1 I1 F N1 σ e1 d1 _ (R.sat_imp (sat_mb.mp q) fun lo s2 q I2 N2 a2 d2 e2 => h2 s2 I2 F N2 σ e2 d2 _ (R.sat_imp (sat_mb.mp q) fun hi s3 q I3 N3 a3 d3 e3 => by
    refine ⟨a, vs, r1, SqL.of (ex_ov d3 _ _ (a3 _ _ (a2 _ _ r2))), fun p hp => ?_⟩
    obtain ⟨m1, m2, m3, m4⟩ := mk_list (K := K) (xs := cutL xs lo hi) d3 hp (rs_up (a2.trans a3) (rs_cut r3))
    rw [m4]
    exact q _ _ N3 (((a1.trans a2).trans a3).trans m1) m2 (e3.up m1) m3)))
/-! what is walked -/
def iAlt (w1 w2 : TI) : TI := fun σ H Rr => w1 σ H Rr ∨ w2 σ H Rr
theorem pi_alt {X : Cx} {tg e : Expr} {w1 w2 : TI} (h1 : PI X tg e w1) (h2 : PI X tg e w2) : PI X tg e (iAlt w1 w2) := ⟨fun pins s σ H R I h => h.elim (h1.run pins s σ H R I) (h2.run pins s σ H R I)⟩
theorem im_sq {x : Sq α} (h : ∀ s, EP te (Γ s) (pv K x)) : IM K (iAlt (iList K te) (iTup K te)) Γ (mp x.l) := fun s I F N σ e d Rr q => by
  obtain ⟨t, l⟩ := x
  cases t with
  | true => exact .inr (im_tup (xs := Tu.mk l) h s I F N σ e d Rr q)
  | false => exact .inl (im_list (xs := l) h s I F N σ e d Rr q)
/-- .. of which it is known beforehand whether it is a tuple -/
theorem im_sqM {t : Bool} {m : Mn S (Sq α)} (ht : ∀ s (Q : Sq α → S → Prop), (m s).sat Q → (m s).sat fun x s' => x.t = t ∧ Q x s') (h : EM K te Γ m) : IM K (iAlt (iList K te) (iTup K te)) Γ (mb m fun x => mp x.l) := fun s I F N σ e d Rr q => by
  have hq := ht s _ (sat_mb.mp q)
  cases t with
  | true =>
    refine .inr (h s I F N σ e d _ (R.sat_imp hq fun x s1 ⟨g, q⟩ v I1 N1 a1 d1 e1 r1 => ?_))
    obtain ⟨t, l⟩ := x
    cases g
    obtain ⟨a, vs, h1, h2, h3⟩ := (show Rp.r K (Tu.mk l) I1 v from r1)
    exact ⟨a, h1, ⟨vs, sqt_ov d1 h2⟩, q _ I1 N1 a1 d1 e1 (it_tup h2 h3)⟩
  | false =>
    refine .inl (h s I F N σ e d _ (R.sat_imp hq fun x s1 ⟨g, q⟩ v I1 N1 a1 d1 e1 r1 => ?_))
    obtain ⟨t, l⟩ := x
    cases g
    obtain ⟨a, vs, h1, h2, h3⟩ := (show Rp.r K l I1 v from r1)
    exact ⟨a, h1, ⟨vs, SqL.of (ex_ov d1 _ _ h2)⟩, q _ I1 N1 a1 d1 e1 (it_list (SqL.of h2) h3)⟩
/-- backwards -/
theorem it_rev {a : Addr} {xs : List α} {vs : List V} {I : Hp} (h : SqL K I a vs) (r : Rs K xs I vs) : ItOk K (Itv K a vs.length) I xs.reverse := fun I1 N1 a1 d1 => by
  have h1 : SqL K (ov N1 I1) a vs := sql_up (a1.trans (ex_ov d1)) h
  refine ⟨fun i x hx => ?_, by show vs.length ≤ xs.reverse.length; rw [List.length_reverse, r.length]; exact Nat.le_refl _⟩
  have hi : i < xs.length := by have := (List.getElem?_eq_some_iff.mp hx).1; simpa using this
  rw [List.getElem?_reverse hi] at hx
  obtain ⟨v, e1, e2⟩ := r.get hx
  rw [r.length] at e1 hi
  refine ⟨⟨hi, vs, v, h1, e1⟩, fun u H' ⟨y1, y2⟩ => ?_⟩
  have e3 := y2 vs h1
  rw [e1] at e3
  cases e3
  exact ⟨I1, y1, Ex.refl I1, d1, Rp.up a1 e2⟩
theorem it_revT {a : Addr} {xs : List α} {vs : List V} {I : Hp} (h : SqT K I a vs) (r : Rs K xs I vs) : ItOk K (RT.ItvT K a vs.length) I xs.reverse := fun I1 N1 a1 d1 => by
  have h1 : SqT K (ov N1 I1) a vs := sqt_up (a1.trans (ex_ov d1)) h
  refine ⟨fun i x hx => ?_, by show vs.length ≤ xs.reverse.length; rw [List.length_reverse, r.length]; exact Nat.le_refl _⟩
  have hi : i < xs.length := by have := (List.getElem?_eq_some_iff.mp hx).1; simpa using this
  rw [List.getElem?_reverse hi] at hx
  obtain ⟨v, e1, e2⟩ := r.get hx
  rw [r.length] at e1 hi
  refine ⟨⟨hi, vs, v, h1, e1⟩, fun u H' ⟨y1, y2⟩ => ?_⟩
  have e3 := y2 vs h1
  rw [e1] at e3
  cases e3
  exact ⟨I1, y1, Ex.refl I1, d1, Rp.up a1 e2⟩
theorem im_rev {m : Mn S (Sq α)} (h : EM K te Γ m) : IM K (RT.iRevA K te) Γ (mb m fun x => mp x.l.reverse) := fun s I F N σ e d Rr q =>
  h s I F N σ e d _ (R.sat_imp (sat_mb.mp q) fun xs s1 q v I1 N1 a1 d1 e1 r1 => by
    obtain ⟨a, vs, h1, h2, h3⟩ := sq_ref r1
    refine ⟨a, vs, h1, ?_⟩
    rcases h2 with ⟨_, h2⟩ | ⟨_, h2⟩
    · exact .inl ⟨SqL.of (ex_ov d1 _ _ h2), q _ I1 N1 a1 d1 e1 (it_rev (SqL.of h2) h3)⟩
    · exact .inr ⟨sqt_ov d1 h2, q _ I1 N1 a1 d1 e1 (it_revT h2 h3)⟩)
theorem rs_zip {xs : List α} {ys : List β} {I : Hp} {us vs : List V} (r1 : Rs K xs I us) (r2 : Rs K ys I vs) {i : Nat} {x : α} {y : β} (h : (xs.zip ys)[i]? = some (x, y)) : xs[i]? = some x ∧ ys[i]? = some y := by
  rw [List.getElem?_zip_eq_some] at h
  exact h
/-- two lists side by side -/
theorem it_zip {a b : Addr} {xs : List α} {ys : List β} {us vs : List V} {I : Hp} (h : SqL K I a us) (g : SqL K I b vs) (r : Rs K xs I us) (r' : Rs K ys I vs) : ItOk K (Itz K a b) I (xs.zip ys) := fun I1 N1 a1 d1 => by
  have h1 : SqL K (ov N1 I1) a us := sql_up (a1.trans (ex_ov d1)) h
  have g1 : SqL K (ov N1 I1) b vs := sql_up (a1.trans (ex_ov d1)) g
  refine ⟨fun i z hz => ?_, ⟨us, vs, h1, g1, by rw [List.length_zip, r.length, r'.length]; omega⟩⟩
  obtain ⟨x, y⟩ := z
  obtain ⟨hx, hy⟩ := rs_zip r r' hz
  obtain ⟨u, e1, e2⟩ := r.get hx
  obtain ⟨w, f1, f2⟩ := r'.get hy
  refine ⟨⟨us, vs, u, w, h1, g1, e1, f1⟩, fun z H' ⟨T, u', w', z1, z2, z3, z4, z5⟩ => ?_⟩
  have e3 := z4 us h1
  rw [e1] at e3
  cases e3
  have f3 := z5 vs g1
  rw [f1] at f3
  cases f3
  obtain ⟨m1, m2, m3, m4⟩ := mk_tup (K := K) (vs := [u, w]) d1 z2
  exact ⟨_, by rw [z3, m4], m1, m2, T, u, w, z1, m3, Rp.up (a1.trans m1) e2, Rp.up (a1.trans m1) f2⟩
theorem im_zip {m : Mn S ζ} {f : ζ → List α} {g : ζ → List β} (h : AM tl Γ m fun z => [pv K (f z), pv K (g z)]) : IM K (iZip K tl) Γ (mb m fun z => mp ((f z).zip (g z))) := fun s I F N σ e d Rr q =>
  h s I F N σ e d _ (R.sat_imp (sat_mb.mp q) fun z s1 q vs I1 N1 a1 d1 e1 r1 => by
    obtain ⟨u, us, rfl, ⟨a, xs, x1, x2, x3⟩, r1⟩ := all2_c r1
    obtain ⟨w, ws, rfl, ⟨b, ys, y1, y2, y3⟩, r1⟩ := all2_c r1
    cases all2_n r1
    exact ⟨a, b, xs, ys, by rw [x1, y1], SqL.of (ex_ov d1 _ _ x2), SqL.of (ex_ov d1 _ _ y2), q _ I1 N1 a1 d1 e1 (it_zip (SqL.of x2) (SqL.of y2) x3 y3)⟩)
theorem eo_lc {wi : TI} {g : TG} {tt : TT} {te : TE} {vs : List Nat} {Γ : S → List Sl} {mx : Mn S (List α)} {c : α → Mn S Bool} {f : α → Mn S β} {Γx : α → S → List Sl} {js : List Nat} (hi : IM K wi Γ mx) (hv : ∀ s, NoAt (Γ s) vs)
    (hg : ∀ x s, GT K g (Γ s) x (Γx x s) js) (hj : js.all (fun j => vs.contains j) = true) (hc : ∀ x, TM tt (Γx x) (c x)) (hf : ∀ x, EM K te (Γx x) (f x)) (wb : ∀ x s, Wk (Γx x s) (Γ s)) : EO (tLc wi g tt te vs) Γ (mb mx fun xs => cmP xs c f) (rOw (ol K)) := fun s I F N σ e d Q q =>
  hi s I F N σ e d _ (R.sat_imp (sat_mb.mp q) fun xs s1 q J I1 N1 a1 d1 e1 jt => by
    obtain ⟨hlen, q⟩ := sat_mc.mp (sat_mb.mp q)
    have hlen := of_decide_eq_true hlen
    intro D hD
    obtain ⟨hD1, hD2⟩ := ov_none hD
    have hDF : F D = none := e1.sub hD1
    have hjs : ∀ j ∈ js, j ∈ vs := fun j hj' => by simpa using List.all_eq_true.mp hj j hj'
    refine ⟨fun i m H' => m = xs.length - i ∧ i ≤ xs.length ∧ ∃ (s' : S) (I' N' : Hp) (acc : List β) (us : List V), H' = ov (ov (sing D (.lst us)) N') I' ∧ Ex I1 I' ∧ Dis N' I' ∧ I' D = none ∧ N' D = none ∧ EnvG s' I' F N' σ (Γ s') ∧ Rs K acc I' us ∧ acc.length ≤ i ∧
      (cmGo (xs.drop i) acc c f s').sat (fun x s' => ∀ v H' I' N', Ex I I' → EnvG s' I' F N' σ (Γ s') → rOw (ol K) x v I' N' H' → Q v H'),
      ⟨xs.length, rfl, Nat.zero_le _, s1, I1, N1, [], [], by rw [upd_sing, ov_assoc], Ex.refl I1, d1, hD2, hD1, e1, .nil, Nat.le_refl _, q⟩, ?_⟩
    rintro i m H' ⟨rfl, hle, s', I', N', acc, us, rfl, y1, y2, y3, y4, y5, y6, y7, y8⟩
    have dG : Dis (sing D (.lst us)) N' := dis_sing y4
    have dGI : Dis (ov (sing D (.lst us)) N') I' := dis_ov (dis_sing y3) y2
    by_cases hlt : i < xs.length
    · have hx : xs[i]? = some xs[i] := List.getElem?_eq_getElem hlt
      have j1 := (jt I' _ y1 dGI).1 i _ hx
      refine .inr ⟨j1.1, fun H' => ∃ (s' : S) (I' N' : Hp) (acc : List β) (us : List V), H' = ov (ov (sing D (.lst us)) N') I' ∧ Ex I1 I' ∧ Dis N' I' ∧ I' D = none ∧ N' D = none ∧ EnvG s' I' F N' σ (Γ s') ∧ Rs K acc I' us ∧ acc.length ≤ i + 1 ∧
        (cmGo (xs.drop (i + 1)) acc c f s').sat (fun x s' => ∀ v H' I' N', Ex I I' → EnvG s' I' F N' σ (Γ s') → rOw (ol K) x v I' N' H' → Q v H'), fun H' hN => ⟨xs.length - (i + 1), by omega, rfl, hlt, hN⟩, fun v H2 hy => ?_⟩
      obtain ⟨I3, rfl, z1, z2, z3⟩ := j1.2 v H2 hy
      have ew : EnvG s' I3 (ov (sing D (.lst us)) F) (ov (sing D (.lst us)) N') (wipe σ vs) (Γ s') := by
        have e3 := (y5.up z1).frame dG
        refine e3.rewipe (hv s') ?_
        rw [wipe_wipe]
      refine (hg xs[i] s').g s' I3 _ _ _ v ew z2 z3 _ fun σ3 e3 w3 => ?_
      have w4 : wipe σ3 vs = wipe σ vs := by rw [w3 vs hjs, wipe_wipe]
      refine ⟨w4, ?_⟩
      rw [List.drop_eq_getElem_cons hlt] at y8
      refine hc xs[i] s' I3 _ _ σ3 e3 z2 _ (R.sat_imp (sat_mb.mp y8) fun k s2 q2 I4 N4 a4 d4 e4 => ?_)
      have back : ∀ {I5 M5 : Hp} {s5 : S}, EnvG s5 I5 (ov (sing D (.lst us)) F) M5 σ3 (Γx xs[i] s5) → Dis M5 I5 → ∃ I6 N6, Ex I5 I6 ∧ ov M5 I5 = ov (ov (sing D (.lst us)) N6) I6 ∧ Dis N6 I6 ∧ I6 D = none ∧ N6 D = none ∧ EnvG s5 I6 F N6 σ (Γ s5) := fun {I5 M5 s5} e5 d5 => by
        obtain ⟨I6, M6, x1, x2, x3, x4⟩ := e5.wk (wb xs[i] s5) d5
        obtain ⟨N6, h1, h2, h3⟩ := x4.unframe (dis_sing hDF)
        subst h1
        obtain ⟨x5, x6⟩ := dis_ov_l x2
        exact ⟨I6, N6, x1, x3.symm, x6, x5.some_l sing_same, h2.some_l sing_same, h3.rewipe (hv s5) w4⟩
      cases k with
      | true =>
        show te σ3 (ov N4 I4) _
        refine hf xs[i] s2 I4 _ N4 σ3 e4 d4 _ (R.sat_imp (sat_mb.mp q2) fun y s3 q3 u I5 N5 a5 d5 e5 r5 => ?_)
        obtain ⟨I6, N6, b1, b2, b3, b4, b5, b6⟩ := back e5 d5
        refine ⟨us, ?_, ?_, s3, I6, N6, acc ++ [y], us ++ [u], ?_, ((((y1.trans z1).trans a4).trans a5).trans b1), b3, b4, b5, b6, (rs_up (((z1.trans a4).trans a5).trans b1) y6).append (.cons (Rp.up b1 r5) .nil), by rw [List.length_append]; simpa using y7, q3⟩
        · rw [b2]; exact ov_l (ov_l sing_same)
        · rw [← y6.length]
          exact Nat.lt_of_le_of_lt (Nat.le_trans y7 (Nat.le_trans (Nat.le_of_lt hlt) hlen)) (by decide)
        · rw [b2, upd_own]
      | false =>
        obtain ⟨I6, N6, b1, b2, b3, b4, b5, b6⟩ := back e4 d4
        exact ⟨s2, I6, N6, acc, us, b2, ((y1.trans z1).trans a4).trans b1, b3, b4, b5, b6, rs_up ((z1.trans a4).trans b1) y6, by omega, q2⟩
    · have hi : i = xs.length := by omega
      subst hi
      rw [List.drop_length] at y8
      refine .inl ⟨(jt I' _ y1 dGI).2, ?_⟩
      exact y8 _ _ I' N' (a1.trans y1) y5 ⟨D, _, rfl, dG, dGI, rfl, us, rfl, y6⟩)
/-! an owned list, or None -/
def rOwO {ρ : Type} (P : ρ → OP) : RetT (Option ρ) := fun x v I N H => match x with
  | none => Dis N I ∧ H = ov N I ∧ v = V.non
  | some y => rOw P y v I N H
theorem em_ownO {m : Mn S (Option (List α))} (h : EO te Γ m (rOwO (ol K))) : EM K te Γ m := fun s I F N σ e d Q q => h s I F N σ e d Q (R.sat_imp q fun x s' q v H' I' N' a1 e1 r1 => by
  cases x with
  | none =>
    obtain ⟨h1, h2, h3⟩ := r1
    rw [h2]
    exact q v I' N' a1 h1 e1 h3
  | some y =>
    obtain ⟨a, Ma, h1, h2, h3, h4, h5⟩ := r1
    obtain ⟨y1, y2⟩ := dis_ov_l h3
    have e9 : H' = ov N' (ov Ma I') := by rw [h4, ov_comm h2, ov_assoc]
    rw [e9, h1]
    exact q (.ref a) _ N' (a1.trans (ex_ov y1)) (dis_ov_r h2.symm y2) (e1.up (ex_ov y1)) ⟨fr_ol _ _ _ y1 h5, fun z => by cases z⟩)
theorem eo_some {P : ρ → OP} {m : Mn S ρ} (h : EO te Γ m (rOw P)) : EO te Γ (mb m fun x => mp (some x)) (rOwO P) := fun s I F N σ e d Q q => h s I F N σ e d Q (R.sat_imp (sat_mb.mp q) fun x s1 q v H' I' N' a1 e1 r1 => q v H' I' N' a1 e1 r1)
theorem eo_none {P : ρ → OP} (h : ∀ s, EP te (Γ s) (pv K ())) : EO te Γ (mp (none : Option ρ)) (rOwO P) := fun s I F N σ e d Q q => h s I F N σ e d Q fun v I' a1 d1 r1 => q v _ I' N a1 (e.up a1) ⟨d1, rfl, r1⟩
theorem rt_retO {P : ρ → OP} {m : Mn S (Option ρ)} {Γr : S → List Sl} (h : EO te Γ m (rOwO P)) (w : ∀ s, Wk (Γ s) (Γr s)) : RT (rOwO P) (tRet te) Γ m Γr := fun s I F N σ e d D q =>
  h s I F N σ e d _ (R.sat_imp q fun x s1 q v H' I' N' a1 e1 r1 => by
    cases x with
    | none =>
      obtain ⟨h1, h2, h3⟩ := r1
      obtain ⟨I2, N2, x1, x2, x3, x4⟩ := e1.wk (w s1) h1
      exact q v H' I2 N2 σ (a1.trans x1) x4 ⟨x2, by rw [h2, x3], h3⟩
    | some y =>
      obtain ⟨a, Ma, h1, h2, h3, h4, h5⟩ := r1
      obtain ⟨y1, y2⟩ := dis_ov_l h3
      obtain ⟨I2, N2, x1, x2, x3, x4⟩ := e1.wk (w s1) y2
      have z := dis_ov_r h2 y1
      rw [← x3] at z
      obtain ⟨z1, z2⟩ := dis_r_ov z
      exact q v H' I2 N2 σ (a1.trans x1) x4 ⟨a, Ma, h1, z1, dis_ov z2 x2, by rw [h4, ← ov_assoc, ← ov_assoc, x3], (P y).up x1 h5⟩)
/-- by cases of a result that is an owned list or None -/
def moc {S ρ τ : Type} (m : Mn S (Option ρ)) (m0 : Mn S τ) (m1 : ρ → Mn S τ) : Mn S τ := mb m fun o => match o with
  | none => m0
  | some x => m1 x
theorem rt_splitO {Ret : RetT τ} {t2 : TS} {P : ρ → OP} {m : Mn S (Option ρ)} {m0 : Mn S τ} {m1 : ρ → Mn S τ} {Γ0 Γr : S → List Sl} {Γs : ρ → S → List Sl} {i : Nat} (h : EO te Γ m (rOwO P)) (hn : ∀ s, NotOw (Γ s) i) (hl : ∀ s, i < (Γ s).length) (h0 : ∀ s, (Γ s).set i (.im (pv K ())) = Γ0 s) (h1 : ∀ x s, (Γ s).set i (.ow (P x)) = Γs x s)
    (k0 : RT Ret t2 Γ0 m0 Γr) (k1 : ∀ x, RT Ret t2 (Γs x) (m1 x) Γr) : RT Ret (tSeq (tAsg te (gName i)) t2) Γ (moc m m0 m1) Γr := fun s I F N σ e d D q =>
  h s I F N σ e d _ (R.sat_imp (sat_mb.mp q) fun x s1 q v H' I' N' a1 e1 r1 => by
    cases x with
    | none =>
      obtain ⟨y1, y2, y3⟩ := r1
      subst y2
      refine k0 s1 I' F N' _ (by rw [← h0]; exact e1.set (p := pv K ()) y3 (hn s1)) y1 D (R.sat_imp q fun x s2 q v H I2 N2 σ2 a2 => q v H I2 N2 σ2 (a1.trans a2))
    | some y =>
      obtain ⟨a, Ma, y1, y2, y3, y4, y5⟩ := r1
      subst y1 y4
      refine k1 y s1 I' F _ _ (by rw [← h1]; exact e1.take y5 (hn s1) (hl s1) y2) y3 D (R.sat_imp q fun x s2 q v H I2 N2 σ2 a2 => q v H I2 N2 σ2 (a1.trans a2)))
end
end Mir

/-! Mir20: a store of objects that change: lists and dicts at chosen addresses, their items values of any kind -/
namespace Mir
open PySem L2
/-- values of any kind; ref: an object of the store -/
inductive Py where
  | non
  | bl (b : Bool)
  | int (i : Int)
  | str (s : Str)
  | tup (xs : List Py)
  | lst (xs : List Py)
  | ref (a : Addr)
  | ins (ns : List Str) (xs : List Py)
mutual
def Py.rel (K : PySem.W.Frag) (H : Hp) : Py → V → Prop
  | .non, v => v = V.non
  | .bl b, v => v = V.bl b
  | .int i, v => v = V.int i
  | .str s, v => v = V.str s
  | .tup xs, v => ∃ a vs, v = .ref a ∧ SqT K H a vs ∧ Py.rels K H xs vs
  | .lst xs, v => ∃ a vs, v = .ref a ∧ H a = some (.lst vs) ∧ Py.rels K H xs vs
  | .ref a, v => v = .ref a
  | .ins ns xs, v => ∃ a C dx vs, v = .ref a ∧ H a = some (.ins C dx (ns.zip vs)) ∧ ClsN K C ns ∧ Py.rels K H xs vs
def Py.rels (K : PySem.W.Frag) (H : Hp) : List Py → List V → Prop
  | [], vs => vs = []
  | x :: xs, vs => ∃ u us, vs = u :: us ∧ Py.rel K H x u ∧ Py.rels K H xs us
end
mutual
theorem Py.up {K : PySem.W.Frag} {H H' : Hp} (e : Ex H H') : ∀ {x : Py} {v : V}, Py.rel K H x v → Py.rel K H' x v
  | .non, v, h => h
  | .bl b, v, h => h
  | .int i, v, h => h
  | .str s, v, h => h
  | .tup xs, v, ⟨a, vs, h1, h2, h3⟩ => ⟨a, vs, h1, sqt_up e h2, Py.ups e h3⟩
  | .lst xs, v, ⟨a, vs, h1, h2, h3⟩ => ⟨a, vs, h1, e _ _ h2, Py.ups e h3⟩
  | .ref a, v, h => h
  | .ins ns xs, v, ⟨a, C, dx, vs, h1, h2, h3, h4⟩ => ⟨a, C, dx, vs, h1, e _ _ h2, h3, Py.ups e h4⟩
theorem Py.ups {K : PySem.W.Frag} {H H' : Hp} (e : Ex H H') : ∀ {xs : List Py} {vs : List V}, Py.rels K H xs vs → Py.rels K H' xs vs
  | [], vs, h => h
  | x :: xs, vs, ⟨u, us, h1, h2, h3⟩ => ⟨u, us, h1, Py.up e h2, Py.ups e h3⟩
end
instance rpPy : Rp Py := ⟨fun K x H v => Py.rel K H x v, fun e h => Py.up e h⟩
theorem rels_iff {K : PySem.W.Frag} {H : Hp} : ∀ {xs : List Py} {vs : List V}, Py.rels K H xs vs ↔ Rs K xs H vs
  | [], vs => ⟨fun h => by rw [show vs = [] from h]; exact .nil, fun h => by cases h; rfl⟩
  | x :: xs, vs => ⟨fun ⟨u, us, h1, h2, h3⟩ => by rw [h1]; exact .cons h2 (rels_iff.mp h3), fun h => by
    cases h with
    | cons h1 h2 => exact ⟨_, _, rfl, h1, rels_iff.mpr h2⟩⟩
/-- a name for an object of the store -/
structure Ref where
  a : Addr
  deriving DecidableEq
instance rpRef : Rp Ref := ⟨fun _ x _ v => v = V.ref x.a, fun _ h => h⟩
instance scRef : Sc Ref := ⟨fun x => V.ref x.a, Iff.rfl⟩
/-- types that are values of any kind -/
class PyT (α : Type) [Rp α] where
  enc : α → Py
  dec : Py → Option α
  rel : ∀ {K : PySem.W.Frag} {x : α} {H : Hp} {v : V}, Rp.r K x H v → Py.rel K H (enc x) v
  der : ∀ {K : PySem.W.Frag} {p : Py} {x : α} {H : Hp} {v : V}, dec p = some x → Py.rel K H p v → Rp.r K x H v
  ed : ∀ x, dec (enc x) = some x
instance ptInt : PyT Int := ⟨.int, fun p => match p with | .int i => some i | _ => none, fun h => h, fun {K p x H v} e h => by
  cases p <;> cases e
  exact h, fun _ => rfl⟩
instance ptBool : PyT Bool := ⟨.bl, fun p => match p with | .bl i => some i | _ => none, fun h => h, fun {K p x H v} e h => by
  cases p <;> cases e
  exact h, fun _ => rfl⟩
instance ptUnit : PyT Unit := ⟨fun _ => .non, fun p => match p with | .non => some () | _ => none, fun h => h, fun {K p x H v} e h => by
  cases p <;> cases e
  exact h, fun _ => rfl⟩
instance ptStr : PyT Str := ⟨.str, fun p => match p with | .str i => some i | _ => none, fun h => h, fun {K p x H v} e h => by
  cases p <;> cases e
  exact h, fun _ => rfl⟩
instance ptRef : PyT Ref := ⟨fun r => .ref r.a, fun p => match p with | .ref i => some ⟨i⟩ | _ => none, fun h => h, fun {K p x H v} e h => by
  cases p <;> cases e
  exact h, fun _ => rfl⟩
instance ptPy : PyT Py := ⟨id, some, fun h => h, fun {K p x H v} e h => by cases e; exact h, fun _ => rfl⟩
section
variable {α β γ δ : Type} [Rp α] [Rp β] [Rp γ] [Rp δ] [PyT α] [PyT β] [PyT γ] [PyT δ]
def decs (α : Type) [Rp α] [PyT α] : List Py → Option (List α)
  | [] => some []
  | p :: ps => match PyT.dec (α := α) p, decs α ps with
    | some x, some xs => some (x :: xs)
    | _, _ => none
theorem decs_rel {K : PySem.W.Frag} {H : Hp} : ∀ {ps : List Py} {xs : List α} {vs : List V}, decs α ps = some xs → Py.rels K H ps vs → Rs K xs H vs
  | [], xs, vs, e, h => by
    cases e
    rw [show vs = [] from h]
    exact .nil
  | p :: ps, xs, vs, e, ⟨u, us, h1, h2, h3⟩ => by
    unfold decs at e
    cases e1 : PyT.dec (α := α) p with
    | none => rw [e1] at e; cases e
    | some x =>
      cases e2 : decs α ps with
      | none => rw [e1, e2] at e; cases e
      | some ys =>
        rw [e1, e2] at e
        cases e
        rw [h1]
        exact .cons (PyT.der e1 h2) (decs_rel e2 h3)
theorem decs_enc : ∀ xs : List α, decs α (xs.map PyT.enc) = some xs
  | [] => rfl
  | x :: xs => by
    show (match PyT.dec (α := α) (PyT.enc x), decs α (xs.map PyT.enc) with
      | some x, some xs => some (x :: xs)
      | _, _ => none) = some (x :: xs)
    rw [PyT.ed, decs_enc xs]
theorem rels_enc {K : PySem.W.Frag} {H : Hp} : ∀ {xs : List α} {vs : List V}, Rs K xs H vs → Py.rels K H (xs.map PyT.enc) vs
  | _, _, .nil => rfl
  | _, _, .cons h t => ⟨_, _, rfl, PyT.rel h, rels_enc t⟩
instance ptList : PyT (List α) where
  enc xs := .lst (xs.map PyT.enc)
  dec p := match p with
    | .lst ps => decs α ps
    | _ => none
  rel := fun ⟨a, vs, h1, h2, h3⟩ => ⟨a, vs, h1, h2, rels_enc h3⟩
  der := fun {K p x H v} e h => by
    cases p <;> try (cases e; done)
    obtain ⟨a, vs, h1, h2, h3⟩ := h
    exact ⟨a, vs, h1, h2, decs_rel e h3⟩
  ed := fun x => decs_enc x
instance ptTu : PyT (Tu α) where
  enc xs := .tup (xs.l.map PyT.enc)
  dec p := match p with
    | .tup ps => (decs α ps).map Tu.mk
    | _ => none
  rel := fun ⟨a, vs, h1, h2, h3⟩ => ⟨a, vs, h1, h2, rels_enc h3⟩
  der := fun {K p x H v} e h => by
    cases p <;> try (cases e; done)
    obtain ⟨a, vs, h1, h2, h3⟩ := h
    obtain ⟨xs, e1, rfl⟩ := Option.map_eq_some_iff.mp e
    exact ⟨a, vs, h1, h2, decs_rel e1 h3⟩
  ed := fun x => by
    show (decs α (x.l.map PyT.enc)).map Tu.mk = some x
    rw [decs_enc]
    rfl
def dec2 (α β : Type) [Rp α] [Rp β] [PyT α] [PyT β] (p : Py) : Option (α × β) := match p with
  | .tup [a, b] => (PyT.dec (α := α) a).bind fun x => (PyT.dec (α := β) b).map fun y => (x, y)
  | _ => none
theorem rels2 {K : PySem.W.Frag} {H : Hp} {a b : Py} {vs : List V} (h : Py.rels K H [a, b] vs) : ∃ u w, vs = [u, w] ∧ Py.rel K H a u ∧ Py.rel K H b w := by
  obtain ⟨u, us, h3, h4, u2, us2, h5, h6, h7⟩ := h
  have h7' : us2 = [] := h7
  subst h3 h5 h7'
  exact ⟨u, u2, rfl, h4, h6⟩
instance ptProd : PyT (α × β) where
  enc x := .tup [PyT.enc x.1, PyT.enc x.2]
  dec := dec2 α β
  rel := fun ⟨a, v1, v2, h1, h2, h3, h4⟩ => ⟨a, _, h1, h2, _, _, rfl, PyT.rel h3, _, _, rfl, PyT.rel h4, rfl⟩
  der := fun {K p x H v} e h => by
    unfold dec2 at e
    split at e
    · obtain ⟨x1, e1, e2⟩ := Option.bind_eq_some_iff.mp e
      obtain ⟨x2, e3, rfl⟩ := Option.map_eq_some_iff.mp e2
      obtain ⟨q, vs, h1, h2, h3⟩ := h
      obtain ⟨u, w, rfl, h4, h5⟩ := rels2 h3
      exact ⟨q, _, _, h1, h2, PyT.der e1 h4, PyT.der e3 h5⟩
    · cases e
  ed := fun x => by
    show dec2 α β (Py.tup [PyT.enc x.1, PyT.enc x.2]) = some x
    unfold dec2
    simp only [PyT.ed]
    rfl
instance ptSq : PyT (Sq α) where
  enc x := if x.t = true then PyT.enc (Tu.mk x.l) else PyT.enc x.l
  dec p := match p with
    | .tup ps => (decs α ps).map (Sq.mk true)
    | .lst ps => (decs α ps).map (Sq.mk false)
    | _ => none
  rel := fun {K x H v} h => by
    obtain ⟨t, l⟩ := x
    cases t with
    | true => exact PyT.rel (x := Tu.mk l) h
    | false => exact PyT.rel (x := l) h
  der := fun {K p x H v} e h => by
    cases p <;> try (cases e; done)
    · obtain ⟨a, vs, h1, h2, h3⟩ := h
      obtain ⟨xs, e1, rfl⟩ := Option.map_eq_some_iff.mp e
      exact (show Rp.r K (Tu.mk xs) H v from ⟨a, vs, h1, h2, decs_rel e1 h3⟩)
    · obtain ⟨a, vs, h1, h2, h3⟩ := h
      obtain ⟨xs, e1, rfl⟩ := Option.map_eq_some_iff.mp e
      exact (show Rp.r K xs H v from ⟨a, vs, h1, h2, decs_rel e1 h3⟩)
  ed := fun x => by
    obtain ⟨t, l⟩ := x
    cases t with
    | true =>
      show (decs α (l.map PyT.enc)).map (Sq.mk true) = some _
      rw [decs_enc]
      rfl
    | false =>
      show (decs α (l.map PyT.enc)).map (Sq.mk false) = some _
      rw [decs_enc]
      rfl
end

/-! ### the store -/
inductive Ob where
  | lst (xs : List Py)
  | dic (kvs : List (Key × Py))
def Ob.rel (K : PySem.W.Frag) (I : Hp) : Ob → HO → Prop
  | .lst xs, u => ∃ vs, u = .lst vs ∧ Py.rels K I xs vs
  | .dic kvs, u => ∃ vs, u = .dK vs ∧ All2 (fun (p : Key × Py) (q : Key × V) => q.1 = p.1 ∧ Py.rel K I p.2 q.2) kvs vs
theorem Ob.up {K : PySem.W.Frag} {I I' : Hp} (e : Ex I I') : ∀ {o : Ob} {u : HO}, Ob.rel K I o u → Ob.rel K I' o u
  | .lst _, _, ⟨vs, h1, h2⟩ => ⟨vs, h1, Py.ups e h2⟩
  | .dic _, _, ⟨vs, h1, h2⟩ => ⟨vs, h1, h2.imp fun _ _ q => ⟨q.1, Py.up e q.2⟩⟩
structure Sto (K : PySem.W.Frag) where
  f : Addr → Option Ob
def Sto.rel {K : PySem.W.Frag} (s : Sto K) (I G : Hp) : Prop := ∀ a, match s.f a with
  | none => G a = none
  | some o => ∃ u, G a = some u ∧ Ob.rel K I o u
theorem Sto.get {K : PySem.W.Frag} {s : Sto K} {I G : Hp} (h : s.rel I G) {a : Addr} {o : Ob} (e : s.f a = some o) : ∃ u, G a = some u ∧ Ob.rel K I o u := by
  have q := h a
  rw [e] at q
  exact q
theorem Sto.no {K : PySem.W.Frag} {s : Sto K} {I G : Hp} (h : s.rel I G) {a : Addr} (e : s.f a = none) : G a = none := by
  have q := h a
  rw [e] at q
  exact q
instance shSto {K : PySem.W.Frag} : SH (Sto K) := ⟨fun s I G => s.rel I G, fun {s I I' G} e h a => by
  have q := h a
  cases r : s.f a with
  | none => rw [r] at q; exact q
  | some o =>
    rw [r] at q
    obtain ⟨u, h1, h2⟩ := q
    exact ⟨u, h1, Ob.up e h2⟩⟩
def Sto.emp (K : PySem.W.Frag) : Sto K := ⟨fun _ => none⟩
def Sto.put {K : PySem.W.Frag} (s : Sto K) (a : Addr) (o : Ob) : Sto K := ⟨fun b => if b = a then some o else s.f b⟩
section
variable {K : PySem.W.Frag} {s : Sto K} {a b : Addr} {o : Ob}
theorem Sto.put_same : (s.put a o).f a = some o := if_pos rfl
theorem Sto.put_ne (h : b ≠ a) : (s.put a o).f b = s.f b := if_neg h
theorem Sto.rel_put {I G : Hp} {u : HO} (h : s.rel I G) (r : Ob.rel K I o u) : (s.put a o).rel I (upd G a u) := fun b => by
  by_cases e : b = a
  · subst e
    rw [Sto.put_same, upd_same]
    exact ⟨u, rfl, r⟩
  · rw [Sto.put_ne e, upd_ne e]
    exact h b
/-- the store's objects stand in the heap -/
theorem EnvG.sto {I F N : Hp} {σ : L2.St} {Γ : List Sl} (h : EnvG s I F N σ Γ) (e : s.f a = some o) : ∃ u, N a = some u ∧ Ob.rel K I o u := by
  obtain ⟨G, g1, g2, e0⟩ := h
  obtain ⟨u, h1, h2⟩ := Sto.get g1 e
  exact ⟨u, e0.subF (ov_l h1), h2⟩
/-- an object changes -/
theorem EnvG.sput {I F N : Hp} {σ : L2.St} {Γ : List Sl} (h : EnvG s I F N σ Γ) (d : Dis N I) (e : s.f a = some o) {o' : Ob} {u' : HO} (r : Ob.rel K I o' u') : ∃ N', upd (ov N I) a u' = ov N' I ∧ Dis N' I ∧ EnvG (s.put a o') I F N' σ Γ := by
  obtain ⟨G, g1, g2, e0⟩ := h
  obtain ⟨u, h1, h2⟩ := Sto.get g1 e
  obtain ⟨P, p1, p2, p3⟩ := e0.parts
  have hN : N a = some u := e0.subF (ov_l h1)
  have hI : I a = none := d.some_l hN
  have hP : P a = none := p2.some_r (ov_l h1)
  have hF : F a = none := g2.some_l h1
  have dF : Dis (upd G a u') F := (dis_upd g2.symm hF).symm
  have dP : Dis P (ov (upd G a u') F) := by
    obtain ⟨y1, y2⟩ := dis_r_ov p2
    exact dis_ov_r (dis_upd y1 hP) y2
  refine ⟨ov P (ov (upd G a u') F), ?_, ?_, upd G a u', Sto.rel_put g1 r, dF, p3 I _ (Ex.refl I) dP⟩
  · rw [p1]
    funext b
    by_cases eb : b = a
    · subst eb
      rw [upd_same, ov_l]
      rw [ov_r hP]
      exact ov_l upd_same
    · rw [upd_ne eb]
      unfold ov
      rw [upd_ne eb]
  · refine fun b => ?_
    by_cases eb : b = a
    · subst eb; exact .inr hI
    · rcases d b with q | q
      · left
        rw [p1] at q
        unfold ov at q ⊢
        rw [upd_ne eb]
        exact q
      · exact .inr q
/-- a new object -/
theorem EnvG.snew {I F N : Hp} {σ : L2.St} {Γ : List Sl} (h : EnvG s I F N σ Γ) (d : Dis N I) (ha : ov N I a = none) {u : HO} (r : Ob.rel K I o u) : s.f a = none ∧ upd (ov N I) a u = ov (ov (sing a u) N) I ∧ Dis (ov (sing a u) N) I ∧ EnvG (s.put a o) I F (ov (sing a u) N) σ Γ := by
  obtain ⟨x1, x2⟩ := ov_none ha
  obtain ⟨G, g1, g2, e0⟩ := h
  have hGF : ov G F a = none := e0.sub x1
  obtain ⟨y1, y2⟩ := ov_none hGF
  have hs : s.f a = none := by
    cases q : s.f a with
    | none => rfl
    | some o' =>
      obtain ⟨u', h1, _⟩ := Sto.get g1 q
      rw [y1] at h1
      cases h1
  obtain ⟨P, p1, p2, p3⟩ := e0.parts
  have hP : P a = none := by
    rw [p1] at x1
    exact (ov_none x1).1
  have dP : Dis P (ov (upd G a u) F) := by
    obtain ⟨z1, z2⟩ := dis_r_ov p2
    exact dis_ov_r (dis_upd z1 hP) z2
  have eN : ov (sing a u) N = ov P (ov (upd G a u) F) := by
    rw [p1]
    funext b
    by_cases eb : b = a
    · subst eb
      rw [ov_l sing_same, ov_r hP, ov_l upd_same]
    · rw [ov_r (sing_ne eb)]
      unfold ov
      rw [upd_ne eb]
  refine ⟨hs, by rw [upd_sing, ov_assoc], dis_ov (dis_sing x2) d, upd G a u, Sto.rel_put g1 r, (dis_upd g2.symm y2).symm, ?_⟩
  rw [eN]
  exact p3 I _ (Ex.refl I) dP
end
/-! what is done with it -/
section
variable {K : PySem.W.Frag} {α : Type}
def mnew (o : Ob) : Mn (Sto K) Ref := fun s => .all (fun a => (s.f a).isNone) fun a => .ok ⟨a⟩ (s.put a o)
def mld (r : Ref) : Mn (Sto K) Ob := fun s => match s.f r.a with
  | some o => .ok o s
  | none => .bad
def mput (r : Ref) (o : Ob) : Mn (Sto K) Unit := fun s => match s.f r.a with
  | some _ => .ok () (s.put r.a o)
  | none => .bad
/-- a list's items -/
def mldL (r : Ref) : Mn (Sto K) (List Py) := fun s => match s.f r.a with
  | some (.lst xs) => .ok xs s
  | _ => .bad
/-- .. of one type -/
def mldT (α : Type) [Rp α] [PyT α] (r : Ref) : Mn (Sto K) (List α) := mb (mldL r) fun xs => mo (decs α xs)
def mldD (r : Ref) : Mn (Sto K) (List (Key × Py)) := fun s => match s.f r.a with
  | some (.dic xs) => .ok xs s
  | _ => .bad
variable {s : Sto K} {r : Ref} {o : Ob}
theorem sat_mnew {Q : Ref → Sto K → Prop} : (mnew o s).sat Q ↔ ∀ a, s.f a = none → Q ⟨a⟩ (s.put a o) := by
  exact ⟨fun h a e => h a (show (s.f a).isNone = true by rw [e]; rfl), fun h a e => h a (by simpa using (show (s.f a).isNone = true from e))⟩
theorem sat_mldL {Q : List Py → Sto K → Prop} : (mldL r s).sat Q ↔ ∃ xs, s.f r.a = some (.lst xs) ∧ Q xs s := by
  unfold mldL
  constructor
  · intro h
    split at h
    · rename_i xs e; exact ⟨xs, e, h⟩
    · exact h.elim
  · rintro ⟨xs, e, q⟩
    rw [e]
    exact q
theorem sat_mldD {Q : List (Key × Py) → Sto K → Prop} : (mldD r s).sat Q ↔ ∃ xs, s.f r.a = some (.dic xs) ∧ Q xs s := by
  unfold mldD
  constructor
  · intro h
    split at h
    · rename_i xs e; exact ⟨xs, e, h⟩
    · exact h.elim
  · rintro ⟨xs, e, q⟩
    rw [e]
    exact q
theorem sat_mput {Q : Unit → Sto K → Prop} : (mput r o s).sat Q ↔ ∃ o0, s.f r.a = some o0 ∧ Q () (s.put r.a o) := by
  unfold mput
  cases e : s.f r.a with
  | none => exact ⟨fun h => h.elim, fun ⟨o0, h, _⟩ => by cases h⟩
  | some o0 => exact ⟨fun h => ⟨o0, rfl, h⟩, fun ⟨_, _, h⟩ => h⟩
theorem sat_mldT [Rp α] [PyT α] {Q : List α → Sto K → Prop} : (mldT α r s).sat Q ↔ ∃ ps xs, s.f r.a = some (.lst ps) ∧ decs α ps = some xs ∧ Q xs s := by
  unfold mldT
  rw [sat_mb, sat_mldL]
  exact ⟨fun ⟨ps, h, q⟩ => let ⟨xs, e, q⟩ := sat_mo.mp q; ⟨ps, xs, h, e, q⟩, fun ⟨ps, xs, h, e, q⟩ => ⟨ps, h, sat_mo.mpr ⟨xs, e, q⟩⟩⟩
end
end Mir

/-! Mir21: the store's objects in expressions and statements -/
namespace Mir
open PySem L2
section
variable {K : PySem.W.Frag} {α β ζ ρ τ : Type} [Rp α] [PyT α] [Rp β] [PyT β] {Γ : Sto K → List Sl} {te ta tb : TE} {tl : TA} {r : Ref}
theorem ecast {S : Type} [SH S] {t : S} {I F N : Hp} {σ : L2.St} {A B : List Sl} (h : A = B) (x : EnvG t I F N σ A) : EnvG t I F N σ B := h ▸ x
theorem rels_len {H : Hp} {xs : List Py} {vs : List V} (h : Py.rels K H xs vs) : xs.length = vs.length := (rels_iff.mp h).length
theorem rels_at {H : Hp} {xs : List Py} {vs : List V} {i : Int} {p : Py} (h : Py.rels K H xs vs) (e : atI xs i = some p) : ∃ v, atI vs i = some v ∧ Py.rel K H p v := rs_at (rels_iff.mp h) e
/-- the list at a name -/
theorem sto_lst {s : Sto K} {I F N : Hp} {σ : L2.St} {Γs : List Sl} {xs : List Py} (e : EnvG s I F N σ Γs) (h : s.f r.a = some (.lst xs)) : ∃ vs, N r.a = some (.lst vs) ∧ Py.rels K I xs vs := by
  obtain ⟨u, h1, vs, h2, h3⟩ := e.sto h
  exact ⟨vs, by rw [h1, h2], h3⟩
/-- r[i] -/
theorem em_ixR {m2 : Mn (Sto K) Int} (ha : ∀ s, EP ta (Γ s) (pv K r)) (hb : EM K tb Γ m2) : EM K (tOp (rIxL K) ta tb) Γ (mb m2 fun i => mb (mldL r) fun xs => mo ((atI xs i).bind (PyT.dec (α := α)))) := fun s I F N σ e d Q q =>
  ha s I F N σ e d _ fun v I1 a1 d1 r1 => hb s I1 F N σ (e.up a1) d1 _ (R.sat_imp (sat_mb.mp q) fun i s2 q w I2 N2 a2 d2 e2 r2 => by
    obtain ⟨xs, h1, q⟩ := sat_mldL.mp (sat_mb.mp q)
    obtain ⟨x, h2, q⟩ := sat_mo.mp q
    obtain ⟨p, h3, h4⟩ := Option.bind_eq_some_iff.mp h2
    obtain ⟨vs, g1, g2⟩ := sto_lst e2 h1
    obtain ⟨u, g3, g4⟩ := rels_at g2 h3
    exact ⟨r.a, vs, i, u, r1, r2, SqL.of (ov_l g1), g3, q u I2 N2 (a1.trans a2) d2 e2 (PyT.der h4 g4)⟩)
/-- r[i] = e -/
theorem rp_setR {m : Mn (Sto K) α} {m2 : Mn (Sto K) Int} (h : EM K te Γ m) (ha : ∀ s, EP ta (Γ s) (pv K r)) (hb : EM K tb Γ m2) (hΓ : ∀ s s', Γ s = Γ s') : RP (tAsg te (gSub ta tb rSetL)) Γ (mb m fun x => mb m2 fun i => mb (mldL r) fun xs => mb (mo (ixN xs.length i)) fun k => mput r (.lst (xs.set k (PyT.enc x)))) fun _ => Γ := fun s I F N σ e d D q =>
  h s I F N σ e d _ (R.sat_imp (sat_mb.mp q) fun x s1 q v I1 N1 a1 d1 e1 r1 => ha s1 I1 F N1 σ e1 d1 _ fun v0 I2 a2 d2 r2 => hb s1 I2 F N1 σ (e1.up a2) d2 _ (R.sat_imp (sat_mb.mp q) fun i s2 q w I3 N3 a3 d3 e3 r3 => by
    obtain ⟨xs, h1, q⟩ := sat_mldL.mp (sat_mb.mp q)
    obtain ⟨k, h2, q⟩ := sat_mo.mp (sat_mb.mp q)
    obtain ⟨o0, _, q⟩ := sat_mput.mp q
    obtain ⟨vs, g1, g2⟩ := sto_lst e3 h1
    refine ⟨r.a, vs, i, k, r2, r3, ov_l g1, by rw [← rels_len g2]; exact h2, ?_⟩
    obtain ⟨N4, x1, x2, x3⟩ := e3.sput d3 h1 (o' := .lst (xs.set k (PyT.enc x))) (u' := .lst (vs.set k v)) ⟨_, rfl, rels_iff.mpr (All2.set (F := fun x v => Rp.r K x I3 v) (Py.up (a2.trans a3) (PyT.rel r1)) k (rels_iff.mp g2))⟩
    rw [x1]
    exact q I3 N4 σ ((a1.trans a2).trans a3) x2 (ecast (hΓ s2 _) x3)))
/-- r.append(e) -/
theorem rp_appR {m : Mn (Sto K) α} (ha : ∀ s, EP ta (Γ s) (pv K r)) (h : EM K te Γ m) (hΓ : ∀ s s', Γ s = Γ s') : RP (tDrop (tBM K "list" rAppend ta (tCons te tNil))) Γ (mb (mldL r) fun _ => mb m fun x => mb (mldL r) fun xs => mb (mc (lenOk xs.length) ()) fun _ => mput r (.lst (xs ++ [PyT.enc x]))) fun _ => Γ := fun s I F N σ e d D q =>
  ha s I F N σ e d _ fun v0 I1 a1 d1 r1 => by
    obtain ⟨xs0, h0, q⟩ := sat_mldL.mp (sat_mb.mp q)
    obtain ⟨vs0, g0, _⟩ := sto_lst (e.up a1) h0
    refine ⟨by rw [show v0 = V.ref r.a from r1]; exact .inl ⟨rfl, vs0, SqL.of (ov_l g0)⟩, h s I1 F N σ (e.up a1) d1 _ (R.sat_imp (sat_mb.mp q) fun x s1 q v I2 N2 a2 d2 e2 r2 => ?_)⟩
    obtain ⟨xs, h1, q⟩ := sat_mldL.mp (sat_mb.mp q)
    obtain ⟨c, q⟩ := sat_mc.mp (sat_mb.mp q)
    obtain ⟨o0, _, q⟩ := sat_mput.mp q
    obtain ⟨vs, g1, g2⟩ := sto_lst e2 h1
    refine ⟨r.a, vs, v, r1, rfl, ov_l g1, sz16 (by rw [← rels_len g2]; exact of_decide_eq_true c), ?_⟩
    obtain ⟨N4, x1, x2, x3⟩ := e2.sput d2 h1 (o' := .lst (xs ++ [PyT.enc x])) (u' := .lst (vs ++ [v])) ⟨_, rfl, rels_iff.mpr ((rels_iff.mp g2).append (.cons (PyT.rel r2) .nil))⟩
    rw [x1]
    exact q I2 N4 σ (a1.trans a2) x2 (ecast (hΓ s1 _) x3)
/-- r.extend(e), e a list -/
theorem rp_extR {m : Mn (Sto K) (List α)} (ha : ∀ s, EP ta (Γ s) (pv K r)) (h : EM K te Γ m) (hΓ : ∀ s s', Γ s = Γ s') : RP (tDrop (tBM K "list" rExtend ta (tCons te tNil))) Γ (mb (mldL r) fun _ => mb m fun ys => mb (mldL r) fun xs => mb (mc (lenOk (xs.length + ys.length)) ()) fun _ => mput r (.lst (xs ++ ys.map PyT.enc))) fun _ => Γ := fun s I F N σ e d D q =>
  ha s I F N σ e d _ fun v0 I1 a1 d1 r1 => by
    obtain ⟨xs0, h0, q⟩ := sat_mldL.mp (sat_mb.mp q)
    obtain ⟨vs0, g0, _⟩ := sto_lst (e.up a1) h0
    refine ⟨by rw [show v0 = V.ref r.a from r1]; exact .inl ⟨rfl, vs0, SqL.of (ov_l g0)⟩, h s I1 F N σ (e.up a1) d1 _ (R.sat_imp (sat_mb.mp q) fun ys s1 q v I2 N2 a2 d2 e2 ⟨b, us, y1, y2, y3⟩ => ?_)⟩
    obtain ⟨xs, h1, q⟩ := sat_mldL.mp (sat_mb.mp q)
    obtain ⟨c, q⟩ := sat_mc.mp (sat_mb.mp q)
    obtain ⟨o0, _, q⟩ := sat_mput.mp q
    obtain ⟨vs, g1, g2⟩ := sto_lst e2 h1
    refine ⟨r.a, b, vs, us, r1, by rw [y1], ov_l g1, ex_ov d2 _ _ y2, sz16' (by rw [← rels_len g2, ← y3.length]; exact of_decide_eq_true c), ?_⟩
    obtain ⟨N4, x1, x2, x3⟩ := e2.sput d2 h1 (o' := .lst (xs ++ ys.map PyT.enc)) (u' := .lst (vs ++ us)) ⟨_, rfl, rels_iff.mpr ((rels_iff.mp g2).append (rels_iff.mp (rels_enc y3)))⟩
    rw [x1]
    exact q I2 N4 σ (a1.trans a2) x2 (ecast (hΓ s1 _) x3)
/-- r.clear() -/
theorem rp_clearR (ha : ∀ s, EP ta (Γ s) (pv K r)) (hΓ : ∀ s s', Γ s = Γ s') : RP (tDrop (tBM0 K "list" rClear ta)) Γ (mb (mldL r) fun _ => mput r (.lst [])) fun _ => Γ := fun s I F N σ e d D q =>
  ha s I F N σ e d _ fun v0 I1 a1 d1 r1 => by
    obtain ⟨xs0, h0, q⟩ := sat_mldL.mp (sat_mb.mp q)
    obtain ⟨vs0, g0, _⟩ := sto_lst (e.up a1) h0
    obtain ⟨o0, _, q⟩ := sat_mput.mp q
    refine ⟨by rw [show v0 = V.ref r.a from r1]; exact .inl ⟨rfl, vs0, SqL.of (ov_l g0)⟩, r.a, vs0, r1, rfl, ov_l g0, ?_⟩
    obtain ⟨N4, x1, x2, x3⟩ := (e.up a1).sput d1 h0 (o' := .lst []) (u' := .lst []) ⟨_, rfl, rfl⟩
    rw [x1]
    exact q I1 N4 σ a1 x2 (ecast (hΓ s _) x3)
/-- r.reverse() -/
theorem rp_revR (ha : ∀ s, EP ta (Γ s) (pv K r)) (hΓ : ∀ s s', Γ s = Γ s') : RP (tDrop (tBM0 K "list" rReverse ta)) Γ (mb (mldL r) fun xs => mput r (.lst xs.reverse)) fun _ => Γ := fun s I F N σ e d D q =>
  ha s I F N σ e d _ fun v0 I1 a1 d1 r1 => by
    obtain ⟨xs0, h0, q⟩ := sat_mldL.mp (sat_mb.mp q)
    obtain ⟨vs0, g0, g2⟩ := sto_lst (e.up a1) h0
    obtain ⟨o0, _, q⟩ := sat_mput.mp q
    refine ⟨by rw [show v0 = V.ref r.a from r1]; exact .inl ⟨rfl, vs0, SqL.of (ov_l g0)⟩, r.a, vs0, r1, rfl, ov_l g0, ?_⟩
    obtain ⟨N4, x1, x2, x3⟩ := (e.up a1).sput d1 h0 (o' := .lst xs0.reverse) (u' := .lst vs0.reverse) ⟨_, rfl, rels_iff.mpr (rels_iff.mp g2).reverse⟩
    rw [x1]
    exact q I1 N4 σ a1 x2 (ecast (hΓ s _) x3)
/-- r.pop(i) -/
theorem em_popR {m : Mn (Sto K) Int} (ha : ∀ s, EP ta (Γ s) (pv K r)) (h : EM K te Γ m) (hΓ : ∀ s s', Γ s = Γ s') : EM K (tBM K "list" rPopAt ta (tCons te tNil)) Γ (mb (mldL r) fun _ => mb m fun i => mb (mldL r) fun xs => mb (mo (if decide (-(2 ^ 63) ≤ i ∧ i < 2 ^ 63) = true then (ixN xs.length i).bind fun k => (xs[k]?.bind (PyT.dec (α := α))).map fun x => (x, xs.eraseIdx k) else none)) fun z => mb (mput r (.lst z.2)) fun _ => mp z.1) := fun s I F N σ e d Q q =>
  ha s I F N σ e d _ fun v0 I1 a1 d1 r1 => by
    obtain ⟨xs0, h0, q⟩ := sat_mldL.mp (sat_mb.mp q)
    obtain ⟨vs0, g0, _⟩ := sto_lst (e.up a1) h0
    refine ⟨by rw [show v0 = V.ref r.a from r1]; exact .inl ⟨rfl, vs0, SqL.of (ov_l g0)⟩, h s I1 F N σ (e.up a1) d1 _ (R.sat_imp (sat_mb.mp q) fun i s1 q v I2 N2 a2 d2 e2 r2 => ?_)⟩
    obtain ⟨xs, h1, q⟩ := sat_mldL.mp (sat_mb.mp q)
    obtain ⟨z, hz, q⟩ := sat_mo.mp (sat_mb.mp q)
    obtain ⟨o0, _, q⟩ := sat_mput.mp (sat_mb.mp q)
    obtain ⟨vs, g1, g2⟩ := sto_lst e2 h1
    by_cases c : decide (-(2 ^ 63) ≤ i ∧ i < 2 ^ 63) = true
    · rw [if_pos c] at hz
      have c := of_decide_eq_true c
      obtain ⟨k, hk, hz⟩ := Option.bind_eq_some_iff.mp hz
      obtain ⟨x, hx, rfl⟩ := Option.map_eq_some_iff.mp hz
      obtain ⟨p, hp, hx⟩ := Option.bind_eq_some_iff.mp hx
      obtain ⟨u, u1, u2⟩ := (rels_iff.mp g2).get hp
      rw [rels_len g2] at hk
      obtain ⟨k1, k2, _⟩ := ixN_seq hk
      refine ⟨r.a, vs, i, k, u, r1, by rw [show v = V.int i from r2], ov_l g1, c.1, c.2, k1, u1, ?_⟩
      obtain ⟨N4, x1, x2, x3⟩ := e2.sput d2 h1 (o' := .lst (xs.eraseIdx k)) (u' := .lst (vs.eraseIdx k)) ⟨_, rfl, rels_iff.mpr (All2.eraseIdx k (rels_iff.mp g2))⟩
      rw [x1]
      exact q u I2 N4 (a1.trans a2) x2 (ecast (hΓ s1 _) x3) (PyT.der hx u2)
    · rw [if_neg c] at hz
      cases hz
/-! new objects -/
/-- a fresh list, put into the store -/
theorem em_new {m : Mn (Sto K) (List α)} (h : EO te Γ m (rOw (ol K))) (hΓ : ∀ s s', Γ s = Γ s') : EM K te Γ (mb m fun xs => mnew (.lst (xs.map PyT.enc))) := fun s I F N σ e d Q q => h s I F N σ e d Q (R.sat_imp (sat_mb.mp q) fun xs s1 q v H' I' N' a1 e1 ⟨a, Ma, h1, h2, h3, h4, vs, h5, h6⟩ => by
  subst h1 h4 h5
  obtain ⟨y1, y2⟩ := dis_ov_l h3
  have ha : ov N' I' a = none := ov_none' (h2.some_l sing_same) (y1.some_l sing_same)
  obtain ⟨g1, g2, g3, g4⟩ := e1.snew y2 ha (o := .lst (xs.map PyT.enc)) (u := .lst vs) ⟨vs, rfl, rels_enc h6⟩
  exact sat_mnew.mp q a g1 (.ref a) I' _ a1 g3 (ecast (hΓ s1 _) g4) rfl)
/-- a display of items of any kinds -/
theorem em_newL {m : Mn (Sto K) ζ} {psf : ζ → List PV} {items : ζ → List Py} (h : AM tl Γ m psf) (hp : ∀ z I vs, All2 (fun (p : PV) v => p.r I v) (psf z) vs → Py.rels K I (items z) vs) (hl : ∀ z, (items z).length ≤ 1000 := by intro _; decide) (hΓ : ∀ s s', Γ s = Γ s') : EM K (tLst tl) Γ (mb m fun z => mnew (.lst (items z))) := fun s I F N σ e d Q q =>
  h s I F N σ e d _ (R.sat_imp (sat_mb.mp q) fun z s1 q vs I1 N1 a1 d1 e1 r1 => by
    have rr := hp z I1 vs r1
    refine ⟨by rw [← rels_len rr]; exact sz2 (hl z), fun p hpn => ?_⟩
    obtain ⟨g1, g2, g3, g4⟩ := e1.snew d1 hpn (o := .lst (items z)) (u := .lst vs) ⟨vs, rfl, rr⟩
    rw [g2]
    exact sat_mnew.mp q p g1 (.ref p) I1 _ a1 g3 (ecast (hΓ s1 _) g4) rfl)
/-! an object of the store read as a value -/
theorem EnvOk.anyF {I F F' : Hp} : ∀ {N : Hp} {σ : L2.St} {Γ : List Sl}, EnvOk I F N σ Γ → Mir.noOw Γ = true → EnvOk I F' F' σ Γ
  | _, _, _, .nil, _ => .nil
  | _, _, _, .no o e, h => .no o (EnvOk.anyF e h)
  | _, _, _, .im q e, h => .im q (EnvOk.anyF e h)
  | _, _, _, .ow q d e, h => by cases h
theorem EnvOk.imp1 {I F : Hp} {p p' : PV} : ∀ {N : Hp} {σ : L2.St} {Γ : List Sl} {j : Nat}, EnvOk I F N σ Γ → Γ[j]? = some (.im p) → (∀ v, p.r I v → p'.r I v) → EnvOk I F N σ (Γ.set j (.im p'))
  | _, _, _, _, .nil, h, _ => by simp at h
  | _, _, _, 0, .no _ _, h, _ => by simp at h
  | _, _, _, 0, .ow _ _ _, h, _ => by simp at h
  | _, _, _, 0, .im q e, h, f => by
    cases (Sl.im.inj (Option.some.inj h))
    exact .im (f _ q) e
  | _, _, _, j + 1, .no o e, h, f => .no o (EnvOk.imp1 (j := j) e (by simpa using h) f)
  | _, _, _, j + 1, .im q e, h, f => .im q (EnvOk.imp1 (j := j) e (by simpa using h) f)
  | _, _, _, j + 1, .ow q d e, h, f => .ow q d (EnvOk.imp1 (j := j) e (by simpa using h) f)
/-- the store lent out as values: what stands in it stands in I1 -/
theorem borG {s : Sto K} {I F N : Hp} {σ : L2.St} {Γs Γ0 : List Sl} (e : EnvG s I F N σ Γs) (d : Dis N I) (w : Wk Γs Γ0) (n : noOw Γ0 = true) : ∃ I1, Dis F I1 ∧ EnvOk I1 F F σ Γ0 ∧ ov F I1 = ov N I ∧ Ex I I1 ∧ (∀ a u, N a = some u → F a = none → I1 a = some u) ∧ (∀ a o, s.f a = some o → ∃ u, I1 a = some u ∧ Ob.rel K I o u) ∧ (∀ I2, Ex I1 I2 → Dis F I2 → ∃ I3, Ex I I3 ∧ Dis N I3 ∧ ov N I3 = ov F I2) := by
  obtain ⟨G, g1, g2, e0⟩ := e
  obtain ⟨I1, x1, x2, x3, x4⟩ := bor e0 d w n
  obtain ⟨y1, y2⟩ := dis_ov_l x1
  have hI : Ex I (ov G I1) := fun a o h => by
    have hN : N a = none := d.some_r h
    have h1 : ov (ov G F) I1 a = ov N I a := by rw [x3]
    rw [ov_r hN, h] at h1
    have hGF := e0.sub hN
    obtain ⟨z1, z2⟩ := ov_none hGF
    rw [ov_r hGF] at h1
    rw [ov_r z1]
    exact h1
  have e3 : ov F (ov G I1) = ov N I := by rw [ov_assoc, ← ov_comm g2, x3]
  refine ⟨ov G I1, dis_ov_r g2.symm y2, (x2.up (ex_ov y1)).anyF n, e3, hI, fun a u hN hF => ?_, fun a o h => ?_, fun I2 a2 d2 => ?_⟩
  · have h1 : ov F (ov G I1) a = ov N I a := by rw [e3]
    rw [ov_r hF, ov_l hN] at h1
    exact h1
  · obtain ⟨u, h1, h2⟩ := Sto.get g1 h
    exact ⟨u, ov_l h1, h2⟩
  · have k := x4 (fun a => match G a with | some _ => none | none => I2 a) (fun a o h => by
        have hG : G a = none := y1.some_r h
        show (match G a with | some _ => none | none => I2 a) = some o
        rw [hG]
        exact a2 a o (by rw [ov_r hG]; exact h)) (fun a => by
        cases hG : G a with
        | some u => exact .inr (by show (match G a with | some _ => none | none => I2 a) = none; rw [hG])
        | none =>
          rcases d2 a with q | q
          · exact .inl (by rw [ov_r hG]; exact q)
          · exact .inr (by show (match G a with | some _ => none | none => I2 a) = none; rw [hG]; exact q))
    obtain ⟨I3, k1, k2, k3⟩ := k
    refine ⟨I3, k1, k2, k3.trans ?_⟩
    funext a
    cases hG : G a with
    | some u =>
      have hF : F a = none := g2.some_l hG
      rw [ov_l (ov_l hG), ov_r hF]
      exact (a2 a u (ov_l hG)).symm
    | none =>
      show ov (ov G F) _ a = ov F I2 a
      cases hF : F a with
      | some u => rw [ov_l (show ov G F a = some u by rw [ov_r hG]; exact hF), ov_l hF]
      | none =>
        rw [ov_r (ov_none' hG hF), ov_r hF]
        show (match G a with | some _ => none | none => I2 a) = I2 a
        rw [hG]
/-- an expression of no state, a name's list a value in it; j the name's slot -/
theorem em_borR [Rp γ] [Sc γ] {Γ0 : List Sl} {j : Nat} {Γ1 : List α → List Sl} {m0 : List α → Mn Unit γ} (w : ∀ s, Wk (Γ s) Γ0) (n : noOw Γ0 = true) (hj : Γ0[j]? = some (.im (pv K r))) (h1 : ∀ xs, Γ0.set j (.im (pv K xs)) = Γ1 xs) (h : ∀ xs, EM K te (fun _ : Unit => Γ1 xs) (m0 xs)) (hn : ∀ xs, noOw (Γ1 xs) = true) : EM K te Γ (mb (mldT α r) fun xs => mu (m0 xs)) := fun s I F N σ e d Q q => by
  obtain ⟨ps, xs, q1, q2, q⟩ := sat_mldT.mp (sat_mb.mp q)
  obtain ⟨I1, x1, x2, x3, x5, _, x6, x4⟩ := borG e d (w s) n
  obtain ⟨u, y1, vs, y2, y3⟩ := x6 _ _ q1
  have e1 : EnvOk I1 F F σ (Γ1 xs) := by
    rw [← h1]
    exact x2.imp1 hj fun v hv => ⟨r.a, vs, hv, by rw [y1, y2], decs_rel q2 (Py.ups x5 y3)⟩
  rw [← x3]
  refine h xs () I1 F F σ (EnvG.of e1) x1 Q (R.sat_imp (sat_mu.mp q) fun x _ q v I2 N2 a2 d2 e2 r2 => ?_)
  cases e2.unit.noOw (hn xs)
  obtain ⟨I3, z1, z2, z3⟩ := x4 I2 a2 d2
  rw [← z3]
  exact q v I3 N z1 z2 (e.up z1) (Sc.eq.mpr (Sc.eq.mp r2))
end
end Mir

/-! Mir22: equality of tuples, isinstance of lists or tuples, displays with a star, tuples made, lists changed further -/
namespace Mir
open PySem L2
/-! ### data of tuples -/
section
variable {α β γ δ ε : Type} [Rp α] [Rp β] [Rp γ] [Rp δ] [Rp ε] [Dt α] [Dt β] [Dt γ] [Dt δ] [Dt ε]
instance dtTu : Dt (Tu α) where
  dt xs := .tuple (xs.l.map Dt.dt)
  rel := fun ⟨a, vs, h1, h2, h3⟩ => by rw [h1]; exact .tup h2 (dpAll_of h3)
  lay := fun xs => by simp [PyData.canLay0, layAll_of xs.l]
  dep := Dt.dep α + 1
  dpt := fun xs => by
    have := depAll_of xs.l
    simp [PyData.depth]
    omega
  eqv := fun xs ys => by
    have := eqvAll_of xs.l ys.l
    obtain ⟨xs⟩ := xs
    obtain ⟨ys⟩ := ys
    simp [PyData.eqv] at this ⊢
    exact this
instance dtProd : Dt (α × β) where
  dt x := .tuple [Dt.dt x.1, Dt.dt x.2]
  rel := fun ⟨a, v1, v2, h1, h2, h3, h4⟩ => by rw [h1]; exact .tup h2 (.cons (Dt.rel h3) (.cons (Dt.rel h4) .nil))
  lay := fun x => by simp [PyData.canLay0, PyData.canLayAll0, Dt.lay]
  dep := max (Dt.dep α) (Dt.dep β) + 1
  dpt := fun x => by
    have h1 := Dt.dpt x.1
    have h2 := Dt.dpt x.2
    simp [PyData.depth, PyData.depthAll]
    omega
  eqv := fun x y => by
    have h1 := Dt.eqv x.1 y.1
    have h2 := Dt.eqv x.2 y.2
    obtain ⟨a, b⟩ := x
    obtain ⟨a', b'⟩ := y
    simp only at h1 h2
    simp [PyData.eqv, PyData.eqvAll, h1, h2]
instance dtSq : Dt (Sq α) where
  dt x := if x.t = true then .tuple (x.l.map Dt.dt) else .list (x.l.map Dt.dt)
  rel := fun {K x H v} h => by
    obtain ⟨t, l⟩ := x
    cases t with
    | true => exact Dt.rel (x := Tu.mk l) h
    | false => exact Dt.rel (x := l) h
  lay := fun x => by
    obtain ⟨t, l⟩ := x
    cases t <;> simp [PyData.canLay0, layAll_of l]
  dep := Dt.dep α + 1
  dpt := fun x => by
    obtain ⟨t, l⟩ := x
    have := depAll_of l
    cases t <;> (simp [PyData.depth]; omega)
  eqv := fun x y => by
    obtain ⟨t, l⟩ := x
    obtain ⟨t', l'⟩ := y
    have := eqvAll_of l l'
    cases t <;> cases t' <;> simp [PyData.eqv] at this ⊢ <;> exact this
/-- data that are not None -/
class DtN (α : Type) [Rp α] [Dt α] : Prop where
  n : ∀ x : α, PyData.eqv .none (Dt.dt x) = false ∧ PyData.eqv (Dt.dt x) .none = false
instance dtnInt : DtN Int := ⟨fun x => by simp [Dt.dt, PyData.eqv]⟩
instance dtnBool : DtN Bool := ⟨fun x => by simp [Dt.dt, PyData.eqv]⟩
instance dtnList : DtN (List α) := ⟨fun x => by simp [Dt.dt, PyData.eqv]⟩
instance dtnTu : DtN (Tu α) := ⟨fun x => by simp [Dt.dt, PyData.eqv]⟩
instance dtnProd : DtN (α × β) := ⟨fun x => by simp [Dt.dt, PyData.eqv]⟩
/-- None, or data -/
abbrev optDt [DtN α] : Dt (Option α) where
  dt x := match x with
    | none => .none
    | some y => Dt.dt y
  rel := fun {K x H v} h => by
    cases x with
    | none => rw [show v = V.non from h]; exact .non
    | some y => exact Dt.rel h.1
  lay := fun x => by
    cases x with
    | none => simp [PyData.canLay0]
    | some y => exact Dt.lay y
  dep := Dt.dep α
  dpt := fun x => by
    cases x with
    | none => simp [PyData.depth]
    | some y => exact Dt.dpt y
  eqv := fun x y => by
    cases x with
    | none =>
      cases y with
      | none => simp [PyData.eqv]
      | some y => simp [(DtN.n y).1]
    | some x =>
      cases y with
      | none => simp [(DtN.n x).2]
      | some y =>
        have := Dt.eqv x y
        simp [this]
instance dtOptL : Dt (Option (List α)) := optDt
instance dtOptTu : Dt (Option (Tu α)) := optDt
instance dtOptB : Dt (Option Bool) := optDt
instance dtOptP : Dt (Option (α × β)) := optDt
instance dtUnit : Dt Unit where
  dt _ := .none
  rel := fun h => by rw [show _ = V.non from h]; exact .non
  lay := fun _ => by simp [PyData.canLay0]
  dep := 0
  dpt := fun _ => by simp [PyData.depth]
  eqv := fun x y => by simp [PyData.eqv]
end
section
variable {K : PySem.W.Frag} {S α β γ ρ ζ τ : Type} [SH S] [Rp α] [Rp β] [Rp γ] {Γ : S → List Sl} {Γ1 : List Sl} {te ta tb : TE} {tl : TA}
/-- == of data of two types -/
theorem o_eqDh [Dt α] [Dt β] {x : α} {y : β} (h : Dt.dep α ≤ 64) (h2 : Dt.dep β ≤ 64) : Op2 (rEqD K) (pv K x) (pv K y) (pv K (PyData.eqv (Dt.dt x) (Dt.dt y))) := fun I M u v Q d hx hy k =>
  ⟨_, _, Dt.rel (Rp.up (ex_ov d) hx), Dt.rel (Rp.up (ex_ov d) hy), shaped_of h x, shaped_of h2 y, k _ I (Ex.refl I) d rfl⟩
/-! ### isinstance -/
theorem ty_sqt {H : Hp} {a : Addr} {vs : List V} (h : SqT K H a vs) : TyX K H (.ref a) (.type "tuple") := by
  rcases h with (h | ⟨o, h⟩) | ⟨o, its, n, h1, h2, h3⟩
  · exact .base (.tup h)
  · exact .fTuple h
  · exact .kTuple h1 h2
theorem ty_tu {xs : Tu α} : ∀ H v, (pv K xs).r H v → TyX K H v (.type "tuple") := fun H v ⟨a, vs, h1, h2, h3⟩ => by rw [h1]; exact ty_sqt h2
theorem ty_prod {x : α × β} : ∀ H v, (pv K x).r H v → TyX K H v (.type "tuple") := fun H v ⟨a, v1, v2, h1, h2, h3, h4⟩ => by rw [h1]; exact ty_sqt h2
theorem ty_non : ∀ H v, (pv K ()).r H v → TyX K H v (.type "NoneType") := fun H v h => by rw [show v = V.non from h]; exact .base .non
theorem ty_sq {xs : Sq α} : ∀ H v, (pv K xs).r H v → TyX K H v (.type (if xs.t = true then "tuple" else "list")) := fun H v h => by
  obtain ⟨t, l⟩ := xs
  cases t with
  | true => exact ty_tu (xs := Tu.mk l) H v h
  | false => exact ty_list (xs := l) H v h
theorem c_isiSq {xs : Sq α} : Cb (rIsi K) [pv K xs, tyPV "tuple"] (pv K xs.t) := by
  obtain ⟨t, l⟩ := xs
  cases t with
  | true => exact c_isi (b := true) (t := "tuple") (ty_sq (xs := Sq.mk true l)) (by decide +kernel)
  | false => exact c_isi (b := false) (t := "list") (ty_sq (xs := Sq.mk false l)) (by decide +kernel)
theorem c_isiSqL {xs : Sq α} : Cb (rIsi K) [pv K xs, tyPV "list"] (pv K (!xs.t)) := by
  obtain ⟨t, l⟩ := xs
  cases t with
  | true => exact c_isi (b := false) (t := "tuple") (ty_sq (xs := Sq.mk true l)) (by decide +kernel)
  | false => exact c_isi (b := true) (t := "list") (ty_sq (xs := Sq.mk false l)) (by decide +kernel)
/-- isinstance(x, (list, tuple)) -/
def tyPV2 (n m : String) : PV := ⟨fun H v => ∃ a, v = V.ref a ∧ H a = some (.tup [.ty n, .ty m]), fun e ⟨a, h1, h2⟩ => ⟨a, h1, e _ _ h2⟩⟩
theorem ep_ty2 {n m : String} (h : AP tl Γ1 [tyPV n, tyPV m]) : EP (tTup tl) Γ1 (tyPV2 n m) := fun I F N σ e d Q q => h I F N σ e d _ fun vs I1 a1 d1 r1 => by
  obtain ⟨u, us, rfl, g1, r1⟩ := all2_c r1
  obtain ⟨w, ws, rfl, g2, r1⟩ := all2_c r1
  cases all2_n r1
  have e1 : u = V.ty n := g1
  have e2 : w = V.ty m := g2
  subst e1 e2
  refine ⟨sz2 (Nat.le_of_ble_eq_true rfl), fun p hp => ?_⟩
  have e3 : upd (ov N I1) p (.tup [V.ty n, V.ty m]) = ov N (upd I1 p (.tup [V.ty n, V.ty m])) := ov_upd (ov_none hp).1
  rw [e3]
  exact q _ _ (a1.trans (Ex.new (ov_none hp).2)) (dis_upd d1 (ov_none hp).1) ⟨p, rfl, upd_same⟩
def kitB2 (t n m : String) : Option Bool := match kitB t n with
  | some true => some true
  | some false => kitB t m
  | none => none
theorem kit_2 {t n m : String} {b : Bool} (h : kitB2 t n m = some b) : PySem.W.kitAny K (.type t) [.type n, .type m] = some b := by
  unfold kitB2 at h
  cases e : kitB t n with
  | none => rw [e] at h; cases h
  | some c =>
    rw [e] at h
    cases c with
    | true => cases h; exact kitAny_cons (kit_ty e) (fun z => nomatch z) fun _ => rfl
    | false =>
      have h : kitB t m = some b := h
      refine kitAny_cons (kit_ty e) (fun _ => ?_) fun z => nomatch z
      exact kitAny_cons (kit_ty h) (fun z => by rw [z]; exact kitAny_nil) fun z => z
theorem c_isi2 {p : PV} {n m t : String} {b : Bool} (h : ∀ H v, p.r H v → TyX K H v (.type t)) (e : kitB2 t n m = some b) : Cb (rIsiT K) [p, tyPV2 n m] (pv K b) := cb2 fun I N v u Q d h1 ⟨a, h2, h3⟩ q => ⟨v, a, [.ty n, .ty m], .type t, [.type n, .type m], b, by rw [h2], ex_ov d _ _ h3, .cons (.ty n) (.cons (.ty m) .nil), h _ v (p.up (ex_ov d) h1), kit_2 e, q _ I (Ex.refl I) d rfl⟩
theorem c_isi2Sq {xs : Sq α} : Cb (rIsiT K) [pv K xs, tyPV2 "list" "tuple"] (pv K true) := by
  obtain ⟨t, l⟩ := xs
  cases t with
  | true => exact c_isi2 (t := "tuple") (ty_sq (xs := Sq.mk true l)) (by decide +kernel)
  | false => exact c_isi2 (t := "list") (ty_sq (xs := Sq.mk false l)) (by decide +kernel)
theorem c_lenP {x : α × β} : Cb (fun xs H Q => ∃ p ys, xs = [.ref p] ∧ (SqL K H p ys ∨ SqT K H p ys) ∧ Q (.int ys.length) H) [pv K x] (pv K (2 : Int)) := cb1 fun I N v Q d ⟨a, v1, v2, h1, h2, _⟩ q => ⟨a, _, by rw [h1], .inr (sqt_ov d h2), q _ I (Ex.refl I) d rfl⟩
/-! ### truth of a list -/
theorem tp_truL {xs : List α} (h : EP te Γ1 (pv K xs)) : TP (fun σ H Q => te σ H fun x H' => ∃ k, TruV K x H' k ∧ Q k H') Γ1 (!xs.isEmpty) := fun I F N σ e d Q q => h I F N σ e d _ fun v I1 a1 d1 ⟨a, vs, h1, h2, h3⟩ => by
  subst h1
  refine ⟨!vs.isEmpty, .inl ⟨vs, SqL.of (ex_ov d1 _ _ h2), rfl⟩, ?_⟩
  have e : vs.isEmpty = xs.isEmpty := by cases h3 <;> rfl
  rw [e]
  exact q I1 a1 d1
/-! ### displays with a star -/
def AL (ta : TA) (Γ : S → List Sl) (m : Mn S (List α)) (K : PySem.W.Frag) : Prop := ∀ (s : S) (I F N : Hp) (σ : L2.St), EnvG s I F N σ (Γ s) → Dis N I → ∀ Q : List V → Hp → Prop,
  (m s).sat (fun xs s' => ∀ vs I' N', Ex I I' → Dis N' I' → EnvG s' I' F N' σ (Γ s') → Rs K xs I' vs → Q vs (ov N' I')) → ta σ (ov N I) Q
theorem al_nil : AL tNil Γ (mp ([] : List α)) K := fun s I F N σ e d Q q => q [] I N (Ex.refl I) d e .nil
theorem al_cons {m1 : Mn S α} {m2 : Mn S (List α)} (h : EM K te Γ m1) (t : AL tl Γ m2 K) : AL (tCons te tl) Γ (mb m1 fun x => mb m2 fun xs => mp (x :: xs)) K := fun s I F N σ e d Q q =>
  h s I F N σ e d _ (R.sat_imp (sat_mb.mp q) fun x s1 q v I1 N1 a1 d1 e1 r1 => t s1 I1 F N1 σ e1 d1 _ (R.sat_imp (sat_mb.mp q) fun xs s2 q vs I2 N2 a2 d2 e2 r2 => q _ I2 N2 (a1.trans a2) d2 e2 (.cons (Rp.up a2 r1) r2)))
theorem al_star {m1 : Mn S (Sq α)} {m2 : Mn S (List α)} (h : EM K te Γ m1) (t : AL tl Γ m2 K) : AL (StX.tStar K te tl) Γ (mb m1 fun x => mb m2 fun xs => mp (x.l ++ xs)) K := fun s I F N σ e d Q q =>
  h s I F N σ e d _ (R.sat_imp (sat_mb.mp q) fun x s1 q v I1 N1 a1 d1 e1 r1 => by
    obtain ⟨a, us, h1, h2, h3⟩ := sq_or d1 r1
    exact ⟨a, us, h1, h2.symm, t s1 I1 F N1 σ e1 d1 _ (R.sat_imp (sat_mb.mp q) fun xs s2 q vs I2 N2 a2 d2 e2 r2 => q _ I2 N2 (a1.trans a2) d2 e2 ((rs_up a2 h3).append r2))⟩)
theorem eo_lstS {m : Mn S (List α)} (h : AL tl Γ m K) : EO (tLst tl) Γ (mb m fun xs => mc (lenOk xs.length) xs) (rOw (ol K)) := fun s I F N σ e d Q q => h s I F N σ e d _ (R.sat_imp (sat_mb.mp q) fun xs s1 q vs I1 N1 a1 d1 e1 r1 => by
  obtain ⟨c, q⟩ := sat_mc.mp q
  refine ⟨sz16' (by rw [← r1.length]; exact of_decide_eq_true c), fun p hp => ?_⟩
  exact q _ _ I1 N1 a1 e1 (new_list d1 hp r1))
theorem em_tupS {m : Mn S (List α)} (h : AL tl Γ m K) : EM K (tTup tl) Γ (mb m fun xs => mc (lenOk xs.length) (Tu.mk xs)) := fun s I F N σ e d Q q => h s I F N σ e d _ (R.sat_imp (sat_mb.mp q) fun xs s1 q vs I1 N1 a1 d1 e1 r1 => by
  obtain ⟨c, q⟩ := sat_mc.mp q
  refine ⟨sz16' (by rw [← r1.length]; exact of_decide_eq_true c), fun p hp => ?_⟩
  obtain ⟨m1, m2, m3, m4⟩ := mk_tup (K := K) (vs := vs) d1 hp
  rw [m4]
  exact q _ _ N1 (a1.trans m1) m2 (e1.up m1) ⟨p, vs, rfl, m3, rs_up m1 r1⟩)
/-! ### tuples made -/
theorem c_tupSq {xs : Sq α} : Cb (fun xs H Q => ∃ p ys, xs = [.ref p] ∧ ((SqL K H p ys ∧ ∀ l, H l = none → Q (.ref l) (upd H l (.tup ys))) ∨ (SqT K H p ys ∧ Q (.ref p) H))) [pv K xs] (pv K (Tu.mk xs.l)) := cb1 fun I N v Q d h q => by
  obtain ⟨a, vs, h1, h2, h3⟩ := sq_ref h
  rcases h2 with ⟨_, h2⟩ | ⟨_, h2⟩
  · refine ⟨a, vs, by rw [h1], .inl ⟨SqL.of (ex_ov d _ _ h2), fun p hp => ?_⟩⟩
    obtain ⟨m1, m2, m3, m4⟩ := mk_tup (K := K) (vs := vs) d hp
    rw [m4]
    exact q _ _ m1 m2 ⟨p, vs, rfl, m3, rs_up m1 h3⟩
  · exact ⟨a, vs, by rw [h1], .inr ⟨sqt_ov d h2, q _ I (Ex.refl I) d ⟨a, vs, rfl, h2, h3⟩⟩⟩
theorem c_tupL {xs : List α} : Cb (fun xs H Q => ∃ p ys, xs = [.ref p] ∧ ((SqL K H p ys ∧ ∀ l, H l = none → Q (.ref l) (upd H l (.tup ys))) ∨ (SqT K H p ys ∧ Q (.ref p) H))) [pv K xs] (pv K (Tu.mk xs)) := c_tupSq (xs := Sq.mk false xs)
theorem em_tupRev {m : Mn S (List α)} (h : EM K te Γ m) : EM K (RT.tTupRev K te) Γ (mb m fun xs => mp (Tu.mk xs.reverse)) := fun s I F N σ e d Q q => h s I F N σ e d _ (R.sat_imp (sat_mb.mp q) fun xs s1 q v I1 N1 a1 d1 e1 ⟨a, vs, h1, h2, h3⟩ => by
  refine ⟨a, vs, h1, SqL.of (ex_ov d1 _ _ h2), fun p hp => ?_⟩
  obtain ⟨m1, m2, m3, m4⟩ := mk_tup (K := K) (vs := vs.reverse) d1 hp
  rw [m4]
  exact q _ _ N1 (a1.trans m1) m2 (e1.up m1) ⟨p, _, rfl, m3, rs_up m1 h3.reverse⟩)
/-- (x,) * k -/
def repTOk (n : Nat) (k : Int) : Bool := decide (0 < n ∧ n ≤ 1000 ∧ 2 ≤ k ∧ k ≤ 1000)
theorem o_repT {xs : Tu α} {k : Int} (c : repTOk xs.l.length k = true) : Op2 (rRepT K) (pv K xs) (pv K k) (pv K (Tu.mk (repL xs.l k))) := fun I M u v Q d ⟨a, vs, h1, h2, h3⟩ hy q => by
  obtain ⟨c1, c2, c3, c4⟩ := of_decide_eq_true c
  have hl := h3.length
  refine ⟨a, k, vs, h1, hy, sqt_ov d h2, fun z => ?_, c3, c4, by rw [← hl]; exact c2, fun p hp => ?_⟩
  · rw [z] at hl
    have hl : xs.l.length = 0 := hl
    omega
  · obtain ⟨m1, m2, m3, m4⟩ := mk_tup (K := K) (vs := (List.replicate k.toNat vs).flatten) d hp
    rw [m4]
    exact q _ _ m1 m2 ⟨p, _, rfl, m3, rs_up m1 (rs_flat h3 _)⟩
/-- xs + ys, a new list -/
theorem eo_cat {m1 m2 : Mn S (List α)} (h1 : EM K ta Γ m1) (h2 : EM K tb Γ m2) : EO (tOp rCat ta tb) Γ (mb m1 fun xs => mb m2 fun ys => mc (lenOk (xs.length + ys.length)) (xs ++ ys)) (rOw (ol K)) := fun s I F N σ e d Q q =>
  h1 s I F N σ e d _ (R.sat_imp (sat_mb.mp q) fun xs s1 q v I1 N1 a1 d1 e1 ⟨a, vs, x1, x2, x3⟩ => h2 s1 I1 F N1 σ e1 d1 _ (R.sat_imp (sat_mb.mp q) fun ys s2 q w I2 N2 a2 d2 e2 ⟨b, us, y1, y2, y3⟩ => by
    obtain ⟨c, q⟩ := sat_mc.mp q
    refine ⟨a, b, vs, us, x1, y1, ex_ov d2 _ _ (a2 _ _ x2), ex_ov d2 _ _ y2, sz16' (by rw [← x3.length, ← y3.length]; exact of_decide_eq_true c), fun p hp => ?_⟩
    exact q _ _ I2 N2 (a1.trans a2) e2 (new_list d2 hp ((rs_up a2 x3).append y3))))
/-- xs * k, a new list -/
theorem eo_repM {m1 : Mn S (List α)} {m2 : Mn S Int} (h1 : EM K ta Γ m1) (h2 : EM K tb Γ m2) : EO (tOp rRep ta tb) Γ (mb m1 fun xs => mb m2 fun k => mc (repOk xs.length k) (repL xs k)) (rOw (ol K)) := fun s I F N σ e d Q q =>
  h1 s I F N σ e d _ (R.sat_imp (sat_mb.mp q) fun xs s1 q v I1 N1 a1 d1 e1 ⟨a, vs, x1, x2, x3⟩ => h2 s1 I1 F N1 σ e1 d1 _ (R.sat_imp (sat_mb.mp q) fun k s2 q w I2 N2 a2 d2 e2 r2 => by
    obtain ⟨c, q⟩ := sat_mc.mp q
    obtain ⟨c1, c2, c3⟩ := of_decide_eq_true c
    refine ⟨a, k, vs, x1, r2, ex_ov d2 _ _ (a2 _ _ x2), c1, c2, sz16' (by rw [← x3.length]; exact c3), fun p hp => ?_⟩
    exact q _ _ I2 N2 (a1.trans a2) e2 (new_list d2 hp (rs_flat (rs_up a2 x3) _))))
/-- a slice of a list, a new list -/
theorem eo_sl {m0 : Mn S (List α)} {m1 m2 : Mn S (Option Int)} {t1 t2 : TO} (h : EM K te Γ m0) (h1 : OPm t1 Γ m1) (h2 : OPm t2 Γ m2) : EO (tSl (rSlL K) te t1 t2) Γ (mb m0 fun xs => mb m1 fun lo => mb m2 fun hi => mp (cutL xs lo hi)) (rOw (ol K)) := fun s I F N σ e d Q q =>
  h s I F N σ e d _ (R.sat_imp (sat_mb.mp q) fun xs s1 q v I1 N1 a1 d1 e1 ⟨a, vs, r1, r2, r3⟩ => h1 s1 I1 F N1 σ e1 d1 _ (R.sat_imp (sat_mb.mp q) fun lo s2 q I2 N2 a2 d2 e2 => h2 s2 I2 F N2 σ e2 d2 _ (R.sat_imp (sat_mb.mp q) fun hi s3 q I3 N3 a3 d3 e3 => by
    refine ⟨a, vs, r1, SqL.of (ex_ov d3 _ _ (a3 _ _ (a2 _ _ r2))), fun p hp => ?_⟩
    exact q _ _ I3 N3 ((a1.trans a2).trans a3) e3 (new_list d3 hp (rs_up (a2.trans a3) (rs_cut r3))))))
/-- list(x) of anything walked as a sequence -/
theorem eo_listM {m : Mn S (Sq α)} (h : EM K te Γ m) : EO (tCB (rListOf K) (tCons te tNil)) Γ (mb m fun x => mp x.l) (rOw (ol K)) := fun s I F N σ e d Q q => h s I F N σ e d _ (R.sat_imp (sat_mb.mp q) fun xs s1 q v I1 N1 a1 d1 e1 r1 => by
  obtain ⟨a, vs, h1, h2, h3⟩ := sq_or d1 r1
  exact ⟨a, vs, by rw [h1], h2, fun l hl => q _ _ I1 N1 a1 e1 (new_list d1 hl h3)⟩)
/-! ### owned lists, further -/
/-- an item of another kind is put behind; the list is not known from then on -/
theorem rp_appN {j : Nat} {m : Mn S β} {xs : List α} {Γ' : S → List Sl} (hj : ∀ s, (Γ s)[j]? = some (.ow (ol K xs))) (h : EM K te Γ m) (hΓ : ∀ s, (Γ s).set j .no = Γ' s) : RP (tDrop (tBM K "list" rAppend (tVar j) (tCons te tNil))) Γ (mb m fun _ => mc (lenOk xs.length) ()) (fun _ => Γ') := fun s I F N σ e d D q => by
  obtain ⟨a, vs, h1, h2, h3⟩ := own_at e (hj s)
  refine ⟨_, h1, .inl ⟨rfl, vs, SqL.of (ov_l h2)⟩, h s I F N σ e d _ (R.sat_imp (sat_mb.mp q) fun x s1 q v I1 N1 a1 d1 e1 r1 => ?_)⟩
  obtain ⟨c, q⟩ := sat_mc.mp q
  have c := of_decide_eq_true c
  obtain ⟨a', Ma, M', h1', ⟨us, h2', h3'⟩, h5, h4', h6, h7, h8⟩ := e1.foc (hj s1)
  rw [h1] at h1'
  cases h1'
  subst h4' h2'
  obtain ⟨y1, y2⟩ := dis_ov_l d1
  refine ⟨a, us, v, rfl, rfl, ov_l (ov_l sing_same), sz16 (by rw [← h3'.length]; exact c), ?_⟩
  have z : Dis (sing a (.lst (us ++ [v]))) I1 := dis_sing (y1.some_l sing_same)
  have zM : Dis (sing a (.lst (us ++ [v]))) M' := dis_sing (h5.some_l sing_same)
  have e9 : upd (ov (ov (sing a (.lst us)) M') I1) a (.lst (us ++ [v])) = ov M' (ov (sing a (.lst (us ++ [v]))) I1) := by
    rw [upd_own, ov_swap zM.symm, ov_assoc]
  rw [e9]
  exact q (ov (sing a (.lst (us ++ [v]))) I1) M' σ (a1.trans (ex_ov z)) (dis_ov_r zM.symm y2) (ecast (hΓ s1) (h8 _ (ex_ov z)))
/-- xs.extend(ys) -/
theorem rp_ext {j : Nat} {m : Mn S (List α)} {xs : List α} {Γ' : List α → S → List Sl} (hj : ∀ s, (Γ s)[j]? = some (.ow (ol K xs))) (h : EM K te Γ m) (hΓ : ∀ ys s, (Γ s).set j (.ow (ol K ys)) = Γ' ys s) : RP (tDrop (tBM K "list" rExtend (tVar j) (tCons te tNil))) Γ (mb m fun ys => mc (lenOk (xs.length + ys.length)) (xs ++ ys)) Γ' := fun s I F N σ e d D q => by
  obtain ⟨a, vs, h1, h2, h3⟩ := own_at e (hj s)
  refine ⟨_, h1, .inl ⟨rfl, vs, SqL.of (ov_l h2)⟩, h s I F N σ e d _ (R.sat_imp (sat_mb.mp q) fun ys s1 q v I1 N1 a1 d1 e1 ⟨b, ws, y1, y2, y3⟩ => ?_)⟩
  obtain ⟨c, q⟩ := sat_mc.mp q
  obtain ⟨a', us, h1', h2', h3'⟩ := own_at e1 (hj s1)
  rw [h1] at h1'
  cases h1'
  refine ⟨a, b, us, ws, rfl, by rw [y1], ov_l h2', ex_ov d1 _ _ y2, sz16' (by rw [← h3'.length, ← y3.length]; exact of_decide_eq_true c), ?_⟩
  obtain ⟨N2, x1, x2, x3⟩ := own_upd (P' := ol K (xs ++ ys)) (us := us ++ ws) (vs := us) (I' := I1) (N' := N1) e1 d1 (hj s1) h1 ol_sing ⟨_, rfl, h3'.append y3⟩
  rw [x1]
  exact q I1 N2 σ a1 x2 (by rw [← hΓ]; exact x3)
end
end Mir

/-! Mir23: t[::-1] of tuples; chains; written arguments; rules that were lacking -/
namespace L2
open PySem PySem.Spec PyProof.Rows HT
section
variable {prog : Program} {w : World} {A : Around} {E : Value → Shared → Prop} {s : Shared}
theorem places_back (n : Nat) : Builtin.Slice.slicePlaces ((n : Int) - 1) (-1) (-1) = n := by
  unfold Builtin.Slice.slicePlaces
  rw [if_neg (by omega)]
  by_cases h : ((n : Int) - 1) > -1
  · rw [if_pos h]
    have e : (((n : Int) - 1 - -1 - 1) / (- -1)) = (n : Int) - 1 := by
      rw [show (- -1 : Int) = 1 by decide, Int.ediv_one]
      omega
    rw [e]
    omega
  · rw [if_neg h]
    show (0 : Int).toNat = n
    omega
theorem adjust_back (n : Nat) : Builtin.Slice.sliceAdjust none none (-1) (n : Int) = ((n : Int) - 1, -1) := by
  unfold Builtin.Slice.sliceAdjust
  have h : ((-1 : Int) < 0) := by decide
  simp only [h, if_true]
theorem sliceApplied_back {sl : Addr} {t : Tok} {n : Nat} {Q : Int × Int × Nat → Shared → Prop} (hs : s.heap.IsSliceOf sl .none .none (.int (-1) t))
    (h : Q ((n : Int) - 1, -1, n) s) : wpAny (model prog w) A (Builtin.Slice.sliceApplied (.ref sl) (pure (n : Int))) Q E s := by
  obtain ⟨os, hos, hcs, hds⟩ := id hs
  unfold Builtin.Slice.sliceApplied Builtin.Slice.sliceFields
  refine wpAny_bind (wpAny_bind (wpAny_field hos hds (x := .none) rfl (wpAny_bind (wpAny_field hos hds (x := .none) rfl (wpAny_bind (wpAny_field hos hds (x := .int (-1) t) rfl (wpAny_pure ?_)))))))
  refine wpAny_bind (slicePart_int ?_)
  show wpAny _ _ (if ((-1 : Int) == 0) = true then _ else _) _ _ s
  rw [if_neg (by decide)]
  refine wpAny_bind (slicePart_none (wpAny_bind (slicePart_none (wpAny_bind (wpAny_pure ?_)))))
  show wpAny _ _ (match Builtin.Slice.sliceAdjust none none (-1) (n : Int) with | (lo, hi) => pure (lo, (-1 : Int), Builtin.Slice.slicePlaces lo hi (-1))) _ _ s
  rw [adjust_back]
  show wpAny _ _ (pure ((n : Int) - 1, (-1 : Int), Builtin.Slice.slicePlaces ((n : Int) - 1) (-1) (-1))) _ _ s
  rw [places_back]
  exact wpAny_pure h
theorem pick_back (xs : Array Value) : ((List.range xs.size).filterMap fun (m : Nat) => xs[(((xs.size : Nat) : Int) - 1 + (m : Int) * -1).toNat]?).toArray = xs.toList.reverse.toArray := by
  have e : (fun (m : Nat) => xs[(((xs.size : Nat) : Int) - 1 + (m : Int) * -1).toNat]?) = fun m => xs[xs.size - 1 - m]? := by
    funext m
    have : (((xs.size : Nat) : Int) - 1 + (m : Int) * -1).toNat = xs.size - 1 - m := by omega
    rw [this]
  rw [e]
  have h1 := PySem.W.krv_range xs.size
  have h2 : ((List.range xs.size).map fun k => xs.size - 1 - k).filterMap (xs[·]?) = xs.toList.reverse := by
    rw [h1]
    rw [List.filterMap_reverse, PySem.W.krv_all]
  rw [List.filterMap_map] at h2
  rw [← h2]
  rfl
theorem getItem_tuple_back {t sl : Addr} {tk : Tok} {items : Array Value} {Q : Value → Shared → Prop} (ht : IsTup s.heap t items) (hs : s.heap.IsSliceOf sl .none .none (.int (-1) tk))
    (h : Q (.ref s.heap.objs.size) { s with heap := s.heap.push { cls := .type "tuple", data := .seq items.toList.reverse.toArray } })
    (hsz : items.size ≤ sizeLine) : wpAny (model prog w) A (getItem (.ref t) (.ref sl)) Q E s := by
  have htake : sizeOk (.seq items.toList.reverse.toArray) := by
    show items.toList.reverse.toArray.size ≤ sizeLine
    rw [List.size_toArray, List.length_reverse, Array.length_toList]
    exact hsz
  obtain ⟨os, hos, hcs, hds⟩ := id hs
  have hTs : s.TypeIs (.ref sl) "slice" := ⟨os, hos, hcs⟩
  unfold getItem
  try with_reducible refine wpAny_holding ?_
  first | refine wpAny_bind (wpAny_pure ?_) | skip
  refine wpAny_bind (wpAny_sequenceKey ht.typeIs (by decide) ?_)
  refine wpAny_bind (wpAny_callSpecial?_slot (name := Str.ofString "__getitem__") ht.typeIs PyProof.Rows.slot_tuple_getitem
    (wpAny_call_entry PyProof.Rows.slot_tuple_getitem ht.typeIs entry_tuple_getitem ?_ (args_tuple_getitem _ _)))
  show wpAny _ _ (Builtin.Tuple.tupleItemsOf (.ref t) >>= _) _ _ s
  refine wpAny_bind (tupleItemsOf_ ht ?_)
  refine wpAny_bind (wpAny_typeOf hTs ?_)
  rw [if_pos (by decide)]
  refine wpAny_bind (sliceApplied_back hs ?_)
  have hno : ¬ ((((items.size : Nat) : Int) - 1 == 0 && (-1 : Int) == 1 && items.size == items.size) = true) := by
    intro q
    rw [Bool.and_eq_true, Bool.and_eq_true] at q
    exact absurd (eq_of_beq q.1.2) (by decide)
  show wpAny _ _ (if (((items.size : Nat) : Int) - 1 == 0 && (-1 : Int) == 1 && items.size == items.size) = true then _ else _) _ _ s
  rw [if_neg hno, pick_back]
  first
    | exact wpAny_bind (m := Builtin.Tuple.tupleExact _) (wpAny_newObj_type (wpAny_pure ⟨_, rfl, wpAny_pure h⟩) htake)
    | exact wpAny_bind (m := Builtin.Tuple.tupleExact _) (wpAny_newObj_type (wpAny_bind (wpAny_pure (wpAny_pure ⟨_, rfl, wpAny_pure h⟩))) htake)
    | exact wpAny_bind (wpAny_bind (m := Builtin.Tuple.tupleExact _) (wpAny_newObj_type (wpAny_pure (wpAny_pure ⟨_, rfl, wpAny_pure h⟩)) htake))
    | exact wpAny_bind (wpAny_bind (m := Builtin.Tuple.tupleExact _) (wpAny_newObj_type (wpAny_pure ⟨_, rfl, wpAny_pure h⟩) htake))
end
section
variable {X : Cx}
/-- x[::-1], x a list or a tuple -/
def rBackSq (K : PySem.W.Frag) : V → Hp → VK → Prop := fun x H Q => ∃ a xs, x = .ref a ∧ ((SqL K H a xs ∧ ∀ p, H p = none → Q (.ref p) (upd H p (.lst xs.reverse))) ∨ (SqT K H a xs ∧ ∀ p, H p = none → Q (.ref p) (upd H p (.tup xs.reverse))))
def tBackSq (K : PySem.W.Frag) (te : TE) : TE := fun σ H Q => te σ H fun x H1 => rBackSq K x H1 Q
theorem pe_backSq {e : Expr} {te : TE} {k : Nat} {p1 p2 p3 pos : Pos} (he : PE X e te) : PE X (.Subscript e (.Slice none none (some (.UnaryOp .USub (.Constant (.int 1) k p1) p2)) p3) pos) (tBackSq X.K te) := by
  refine ⟨fun pins s σ H Q I h => ?_⟩
  refine Subscript_ (thn (he.run pins s σ H _ I h) fun v s1 ⟨x, H1, I1, r1, q1⟩ => ?_)
  obtain ⟨a, xs, ex, q⟩ := q1
  subst ex
  cases r1
  have hst : PO X (some (.UnaryOp .USub (.Constant (.int 1) k p1) p2)) (tPart (tUn (rU fun i => .int (-i)) (tC (.int 1)))) := po_some (pe_un un_neg pe_int)
  refine wpAny_Slice (thn (po_none.run pins s1 σ H1 (fun o H2 => o = none ∧ H2 = H1) I1 ⟨rfl, rfl⟩) fun vl s2 ⟨l, H2, I2, pl, el, e2⟩ => ?_)
  subst el e2
  refine thn (po_none.run pins s2 σ H2 (fun o H3 => o = none ∧ H3 = H2) I2 ⟨rfl, rfl⟩) fun vu s3 ⟨u, H3, I3, pu, eu, e3⟩ => ?_
  subst eu e3
  refine thn (hst.run pins s3 σ H3 (fun o H4 => o = some (-1) ∧ H4 = H3) I3 ⟨1, rfl, -1, rfl, rfl, rfl⟩) fun vs s4 ⟨o, H4, I4, ps, eo, e4⟩ => ?_
  subst eo e4
  have I5 : Inv X pins σ H4 { s4 with heap := s4.heap.push { cls := .type "slice", data := .fields #[vl, vu, vs] } } := I4.kept (t' := s4.toks) fun b ob q => Heap.get?_push_of_some _ q
  show wpAny (model X.prog X.w) X.A (subscriptTail e (.Slice none none (some (.UnaryOp .USub (.Constant (.int 1) k p1) p2)) p3) (.ref a) (.ref s4.heap.objs.size)) (EP X pins σ Q) X.xe { s4 with heap := s4.heap.push { cls := .type "slice", data := .fields #[vl, vu, vs] } }
  rcases q with ⟨hx, q⟩ | ⟨hx, q⟩
  · obtain ⟨its, r, ht, hz⟩ := I5.list hx
    have hlen := r.length
    refine tail_any (ops := [.ref a, .ref s4.heap.objs.size]) ht.isList.typeIs (PySem.slot_list_getitem.lookup) ?_ (by with_unfolding_all rfl)
    refine wpAny_getItem_list_slice ht.isList (Heap.IsSliceOf.new _ vl vu vs) pl pu ps (by decide) ?_ (by rw [List.size_toArray]; omega)
    rw [PySem.W.krv_pick]
    refine ⟨.ref _, _, I5.laid (t' := s4.toks) (o := .lst xs.reverse) (fun b ob q => Heap.get?_push_of_some _ q) (Nat.le_refl _) ?_, rfl, q _ (I5.hok.fresh (Nat.le_refl _))⟩
    exact ⟨by rw [List.length_reverse]; exact hz, _, 0, r.reverse, Heap.get?_push_size _ rfl⟩
  · obtain ⟨its, r, ht, hz⟩ := I5.tuple hx
    have hlen := r.length
    cases pl
    cases pu
    obtain ⟨i, t, ei⟩ : ∃ i t, vs = Value.int i t ∧ i = -1 := by
      cases ps with
      | int i t => exact ⟨_, _, rfl, rfl⟩
    obtain ⟨rfl, rfl⟩ := ei
    refine tail_any (ops := [.ref a, .ref s4.heap.objs.size]) ht.typeIs (PyProof.Rows.slot_tuple_getitem.lookup) ?_ (by with_unfolding_all rfl)
    refine getItem_tuple_back ht (Heap.IsSliceOf.new _ .none .none _) ?_ (by rw [List.size_toArray]; omega)
    refine ⟨.ref _, _, I5.laid (t' := s4.toks) (o := .tup xs.reverse) (fun b ob q => Heap.get?_push_of_some _ q) (Nat.le_refl _) ?_, rfl, q _ (I5.hok.fresh (Nat.le_refl _))⟩
    exact ⟨by rw [List.length_reverse]; exact hz, _, r.reverse, _, Heap.get?_push_size _ rfl, rfl, 0, rfl⟩
end
end L2
namespace Mir
open PySem L2
section
variable {K : PySem.W.Frag} {S α β γ ρ ζ τ : Type} [SH S] [Rp α] [Rp β] [Rp γ] {Γ : S → List Sl} {Γ1 : List Sl} {te ta tb tc : TE} {tl : TA}
theorem ep_backSq {xs : Sq α} (h : EP te Γ1 (pv K xs)) : EP (tBackSq K te) Γ1 (pv K (Sq.mk xs.t xs.l.reverse)) := fun I F N σ e d Q q => h I F N σ e d _ fun v I1 a1 d1 r1 => by
  obtain ⟨t, l⟩ := xs
  cases t with
  | true =>
    obtain ⟨a, vs, h1, h2, h3⟩ := (show Rp.r K (Tu.mk l) I1 v from r1)
    refine ⟨a, vs, h1, .inr ⟨sqt_ov d1 h2, fun p hp => ?_⟩⟩
    obtain ⟨m1, m2, m3, m4⟩ := mk_tup (K := K) (vs := vs.reverse) d1 hp
    rw [m4]
    exact q _ _ (a1.trans m1) m2 ⟨p, _, rfl, m3, rs_up m1 h3.reverse⟩
  | false =>
    obtain ⟨a, vs, h1, h2, h3⟩ := (show Rp.r K l I1 v from r1)
    refine ⟨a, vs, h1, .inl ⟨SqL.of (ex_ov d1 _ _ h2), fun p hp => ?_⟩⟩
    obtain ⟨m1, m2, m3, m4⟩ := mk_list (K := K) (xs := l.reverse) d1 hp h3.reverse
    rw [m4]
    exact q _ _ (a1.trans m1) m2 m3
theorem eo_back {m : Mn S (List α)} (h : EM K te Γ m) : EO (tRevL K te) Γ (mb m fun xs => mp xs.reverse) (rOw (ol K)) := fun s I F N σ e d Q q => h s I F N σ e d _ (R.sat_imp (sat_mb.mp q) fun xs s1 q v I1 N1 a1 d1 e1 ⟨a, vs, h1, h2, h3⟩ =>
  ⟨a, vs, h1, SqL.of (ex_ov d1 _ _ h2), fun p hp => q _ _ I1 N1 a1 e1 (new_list d1 hp h3.reverse)⟩)
/-- a < b < c -/
theorem em_chain {r1 r2 : R2} {f : α → β → Bool} {g : β → γ → Bool} {m1 : Mn S α} {m2 : Mn S β} {m3 : Mn S γ} (ha : EM K ta Γ m1) (hb : EM K tb Γ m2) (hc : EM K tc Γ m3) (h1 : ∀ x y, Op2 r1 (pv K x) (pv K y) (pv K (f x y))) (h2 : ∀ x y, Op2 r2 (pv K x) (pv K y) (pv K (g x y))) :
    EM K (tChain r1 r2 ta tb tc) Γ (mb m1 fun x => mb m2 fun y => mi (f x y) (mb m3 fun z => mp (g y z)) (mp false)) := fun s I F N σ e d Q q =>
  ha s I F N σ e d _ (R.sat_imp (sat_mb.mp q) fun x s1 q v1 I1 N1 a1 d1 e1 g1 => hb s1 I1 F N1 σ e1 d1 _ (R.sat_imp (sat_mb.mp q) fun y s2 q v2 I2 N2 a2 d2 e2 g2 =>
    h1 x y I2 N2 v1 v2 _ d2 (Rp.up a2 g1) g2 fun v3 I3 a3 d3 g3 => by
      obtain ⟨qt, qf⟩ := sat_mi.mp q
      refine ⟨f x y, g3, ?_⟩
      cases hf : f x y with
      | true => exact hc s2 I3 F N2 σ (e2.up a3) d3 _ (R.sat_imp (sat_mb.mp (qt hf)) fun z s3 q v4 I4 N4 a4 d4 e4 g4 => h2 y z I4 N4 v2 v4 Q d4 (Rp.up (a3.trans a4) g2) g4 fun v5 I5 a5 d5 g5 => q v5 I5 N4 ((((a1.trans a2).trans a3).trans a4).trans a5) d5 (e4.up a5) g5)
      | false => exact qf hf _ I3 N2 ((a1.trans a2).trans a3) d3 (e2.up a3) rfl))
/-- a written argument -/
theorem am_lit {p : PV} {m : Mn S ζ} {ps : ζ → List PV} (h : ∀ s, EP te (Γ s) p) (t : AM tl Γ m ps) : AM (tCons te tl) Γ m fun z => p :: ps z := fun s I F N σ e d Q q =>
  h s I F N σ e d _ fun v I1 a1 d1 r1 => t s I1 F N σ (e.up a1) d1 _ (R.sat_imp q fun z s2 q vs I2 N2 a2 d2 e2 r2 => q _ I2 N2 (a1.trans a2) d2 e2 (.cons (p.up a2 r1) r2))
/-- None is not expected -/
theorem em_unoptM {m : Mn S (Option α)} (h : EM K te Γ m) : EM K te Γ (mb m fun o => mo o) := fun s I F N σ e d Q q => h s I F N σ e d Q (R.sat_imp (sat_mb.mp q) fun o s1 q v I1 N1 a1 d1 e1 r1 => by
  obtain ⟨x, hx, q⟩ := sat_mo.mp q
  subst hx
  exact q v I1 N1 a1 d1 e1 r1.1)
theorem em_ixTl {xs : Tu α} {m2 : Mn S Int} (ha : ∀ s, EP ta (Γ s) (pv K xs)) (hb : EM K tb Γ m2) : EM K (tOp (rIxT K) ta tb) Γ (mb m2 fun i => mo (atI xs.l i)) := fun s I F N σ e d Q q =>
  ha s I F N σ e d _ fun v I1 a1 d1 r1 => hb s I1 F N σ (e.up a1) d1 _ (R.sat_imp (sat_mb.mp q) fun i s2 q u I2 N2 a2 d2 e2 r2 => by
    obtain ⟨x, hx, q⟩ := sat_mo.mp q
    exact o_ixT (xs := xs.l) hx I2 N2 v u Q d2 (Rp.up a2 r1) r2 fun w I3 a3 d3 r3 => q w I3 N2 ((a1.trans a2).trans a3) d3 (e2.up a3) r3)
/-- != of data of two types -/
theorem o_neDh [Dt α] [Dt β] {x : α} {y : β} (h : Dt.dep α ≤ 64) (h2 : Dt.dep β ≤ 64) : Op2 (rNeD K) (pv K x) (pv K y) (pv K (!PyData.eqv (Dt.dt x) (Dt.dt y))) := fun I M u v Q d hx hy k =>
  ⟨_, _, Dt.rel (Rp.up (ex_ov d) hx), Dt.rel (Rp.up (ex_ov d) hy), shaped_of h x, shaped_of h2 y, k _ I (Ex.refl I) d rfl⟩
end
/-! ### enumerate -/
def enumL {α : Type} (xs : List α) : List (Int × α) := xs.zipIdx.map fun p => ((p.2 : Int), p.1)
theorem bt_tuple' : bootBuiltins "tuple" = some (.type "tuple") := by decide +kernel
end Mir

/-! Mir24: not of a list, enumerate; dicts of ints, their items sorted -/
namespace L2
namespace DX2
open PySem PySem.Spec PyProof.Rows L2.DX
/-- a pair of ints in a heap -/
def inOf : Option Value → Int
  | some (.int i _) => i
  | _ => 0
def prOf (h : Heap) (v : Value) : Int × Int := match v with
  | .ref b => match h.get? b with
    | some o => match o.data with
      | .seq a _ => (inOf a[0]?, inOf a[1]?)
      | _ => (0, 0)
    | none => (0, 0)
  | _ => (0, 0)
theorem pairs_at {K : Type} [DecidableEq K] {prog : Program} {w : World} {knd : PySem.KeyKind prog w K} : ∀ {es : List DictEntry} {kvs : List (K × Value)}, Pairs knd es kvs → ∀ {j : Nat} {e : DictEntry}, es[j]? = some e → ∃ k v, kvs[j]? = some (k, v) ∧ knd.is k e.key = true ∧ e.val = v
  | _, _, .nil, j, e, h => by simp at h
  | _, _, .cons h1 h3 h2, 0, e, h => by
    cases (Option.some.inj h)
    exact ⟨_, _, rfl, h1, h3⟩
  | _, _, .cons h1 h3 h2, j + 1, e, h => pairs_at h2 (j := j) (by simpa using h)
theorem pairs_len {K : Type} [DecidableEq K] {prog : Program} {w : World} {knd : PySem.KeyKind prog w K} : ∀ {es : List DictEntry} {kvs : List (K × Value)}, Pairs knd es kvs → es.length = kvs.length
  | _, _, .nil => rfl
  | _, _, .cons _ _ h2 => congrArg Nat.succ (pairs_len h2)
section
variable {X : Cx}
def rItemsI : V → List V → Hp → VK → Prop := fun x xs H Q => ∃ (a : Addr) (kvs : List (Key × V)), x = .ref a ∧ xs = [] ∧ H a = some (.dK kvs) ∧ ∀ p, H p = none → Q (.ref p) (upd H p (itemsO p a))
theorem mt_itemsI : MtR X "dict.items" rItemsI := by
  intro pins s σ H x xs v us Q I rx rxs h
  obtain ⟨a, kvs, rfl, rfl, ha, q⟩ := h
  cases rx
  cases rxs
  obtain ⟨z, hd, vs, kv, o, es, ep, ho, hx, hdat, _⟩ := I.hok a _ ha
  refine DT.callItems (es := es) (ep := ep) hd ⟨o, ho, hx, hdat⟩ ?_
  have hf : H s.heap.objs.size = none := I.hok.fresh (Nat.le_refl _)
  exact ⟨.ref s.heap.objs.size, upd H s.heap.objs.size (itemsO s.heap.objs.size a), I.laid (t' := s.toks) (fun b u e => Heap.get?_push_of_some _ e) (Nat.le_refl _) (itemsO_ok (Heap.get?_push_size _ rfl)), rfl, q _ hf⟩
abbrev entI (e : Int × Int) : Key × V := (Sum.inl e.1, V.int e.2)
/-- sorted(d.items()), ints to ints -/
def rSortI : List V → Hp → VK → Prop := fun vs H Q => ∃ (p a : Addr) (ks : List (Int × Int)), vs = [.ref p] ∧ H p = some (itemsO p a) ∧ H a = some (.dK (ks.map entI)) ∧ ks.length ≤ 10000 ∧
  ∀ (H' : Hp) (q : Addr) (zs : List (Addr × Int × Int)), (∀ b o, H b = some o → H' b = some o) → H q = none → (∀ z ∈ zs, H z.1 = none) → (zs.map (·.2)).Perm ks → (zs.map (·.2)).Pairwise (fun x y => SrtO.lexB y x = false) → H' q = some (.lst (zs.map fun z => V.ref z.1)) → (∀ z ∈ zs, H' z.1 = some (.tup [.int z.2.1, .int z.2.2])) → Q (.ref q) H'
theorem cr_sortI (hc : X.calm = true) : CallR X (.builtin "sorted") rSortI := by
  intro pins s σ H xs us Q I r h
  obtain ⟨p, a, ks, rfl, hp, ha, h64, q⟩ := h
  obtain rfl := Vals.ref1 r
  have view : s.heap.IsItemsView p a := (show ObjOk X.prog X.w H s.heap p (itemsO p a) from I.hok p _ hp).1
  obtain ⟨z, hd, xs', rel, o, es, ep, ho, hx, hdat, hes, hpr, hn⟩ := I.hok a _ ha
  have l1 : (ks.map entI).length = xs'.length := Paired.length rel
  rw [List.length_map] at l1
  have l2 : es.size = xs'.length := by rw [← Array.length_toList]; exact pairs_len hpr
  have hh : X.A.handled = none := I.ok.hd hc
  refine DT.sortedI (es := es) (ep := ep) hh view ⟨o, ho, hx, hdat⟩ (by rw [sizeLine_eq]; omega) fun h' tk as hk hlt hl hG => ?_
  have lak : as.length = ks.length := by omega
  have nd : as.Nodup := List.Pairwise.imp (fun h => Nat.ne_of_lt h) hG.rise
  -- the pairs that were made
  have pr : ∀ (j : Nat) (b : Addr), as[j]? = some b → ∃ (e : Int × Int) (t u : Tok), ks[j]? = some e ∧ h'.get? b = some { cls := .type "tuple", data := .seq #[Value.int e.1 t, Value.int e.2 u] } := by
    intro j b hj
    obtain ⟨en, he, hg⟩ := hG.pairs j b hj
    have he' : es.toList[j]? = some en := by rw [Array.getElem?_toList]; exact he
    obtain ⟨k, v, hx', hk', hv'⟩ := pairs_at hpr he'
    obtain ⟨e0, he0, r1, r2⟩ := DX.pget rel hx'
    rw [List.getElem?_map] at he0
    cases hkj : ks[j]? with
    | none =>
      rw [hkj] at he0
      exact nomatch (show (none : Option (Key × V)) = some e0 from he0)
    | some e =>
      rw [hkj] at he0
      have ee : entI e = e0 := Option.some.inj he0
      subst ee
      have hkey : k = Sum.inl e.1 := r1.symm
      subst hkey
      have rk := relV_key (show keyIs (Sum.inl e.1) en.key = true from hk')
      obtain ⟨t, ht⟩ : ∃ t, en.key = Value.int e.1 t := rk
      obtain ⟨u, hu⟩ : ∃ u, v = Value.int e.2 u := r2
      refine ⟨e, t, u, rfl, ?_⟩
      rw [hg, ht, hv', hu]
  -- the heap of the sort
  have hob : (h'.push { cls := .type "list", data := .seq (as.map Value.ref).toArray }).get? h'.objs.size = some (seqObj "list" (as.map Value.ref).toArray 0) := Heap.get?_push_size _ rfl
  have kb : ∀ b o, s.heap.get? b = some o → (h'.push { cls := .type "list", data := .seq (as.map Value.ref).toArray }).get? b = some o := fun b o e => Heap.get?_push_of_some _ (hk b o e)
  have ne0 : ∀ b o, h'.get? b = some o → b ≠ h'.objs.size := fun b o e => Nat.ne_of_lt (Heap.lt_size e)
  generalize hh2 : h'.push { cls := .type "list", data := .seq (as.map Value.ref).toArray } = h2 at hob kb ⊢
  have ka : ∀ b o, h'.get? b = some o → h2.get? b = some o := fun b o e => by rw [← hh2]; exact Heap.get?_push_of_some _ e
  have prk : ∀ (j : Nat) (b : Addr) (e : Int × Int), as[j]? = some b → ks[j]? = some e → prOf h' (.ref b) = e := by
    intro j b e hj he
    obtain ⟨e', t, u, he', hg⟩ := pr j b hj
    rw [he] at he'
    cases he'
    unfold prOf
    simp only [hg]
    rfl
  refine wpAny_call_entry PyProof.Rows.slot_list_sort ⟨_, hob, rfl⟩ PyProof.Rows.entry_list_sort
    (SrtO.list_sort_ord (s := { s with heap := h2, toks := tk }) (SrtO.swo_lex (prOf h')) hob (by rw [List.length_map, sizeLine_eq]; omega) (fun h2l => ?_) fun out o1 o2 => ⟨.none, rfl, ?_⟩) (PyProof.Rows.args_list_sort _)
  · refine SrtO.pairs_sortableO (s := { s with heap := h2, toks := tk }) (by omega) (fun v hm => ?_) fun o e => ?_
    · obtain ⟨b, hb, rfl⟩ := List.mem_map.mp hm
      obtain ⟨j, hj⟩ := List.mem_iff_getElem?.mp hb
      obtain ⟨e, t, u, he, hg⟩ := pr j b hj
      have e2 := prk j b e hj he
      exact ⟨b, _, t, u, 0, rfl, ka _ _ hg, rfl, by rw [e2]⟩
    · have e' : some o = some (seqObj "list" (as.map Value.ref).toArray 0) := e.symm.trans hob
      cases e'
      intro c
      exact absurd (Value.type.inj c) (by decide)
  · show EP X pins σ Q (.ref h'.objs.size) { s with heap := sortedHeap h2 h'.objs.size (as.map Value.ref) out.toArray, toks := tk }
    obtain ⟨zs, pz, ez⟩ := perm_lift (fun z : Addr × Int × Int => Value.ref z.1) o2.perm (as.zip ks) (by
      have m1 : (as.zip ks).map (·.1) = as := List.map_fst_zip (by rw [lak]; exact Nat.le_refl _)
      rw [← m1, List.map_map]
      simp [List.map_map, m1])
    have idx : ∀ z ∈ zs, ∃ j : Nat, as[j]? = some z.1 ∧ ks[j]? = some z.2 := by
      intro z' hz'
      obtain ⟨j, hj⟩ := List.mem_iff_getElem?.mp (pz.mem_iff.mp hz')
      exact ⟨j, List.getElem?_zip_eq_some.mp hj⟩
    have hout : out = zs.map fun z => Value.ref z.1 := ez.symm
    have hperm : (zs.map (·.2)).Perm ks := by
      have e := pz.map (·.2)
      have m2 : (as.zip ks).map (·.2) = ks := List.map_snd_zip (by rw [lak]; exact Nat.le_refl _)
      rw [m2] at e
      exact e
    have hsort : (zs.map (·.2)).Pairwise (fun x y => SrtO.lexB y x = false) := by
      rw [List.pairwise_map]
      have o1' := o1
      rw [hout] at o1'
      have o1'' := List.pairwise_map.mp o1'
      refine List.Pairwise.imp_of_mem (fun {x y} hx hy h => ?_) o1''
      obtain ⟨j, j1, j2⟩ := idx x hx
      obtain ⟨i, i1, i2⟩ := idx y hy
      have h' : SrtO.lexB (prOf h' (.ref y.1)) (prOf h' (.ref x.1)) = false := h
      rw [prk j _ _ j1 j2, prk i _ _ i1 i2] at h'
      exact h'
    -- behind the sort
    have kF : ∀ b o, b ≠ h'.objs.size → h2.get? b = some o → (sortedHeap h2 h'.objs.size (as.map Value.ref) out.toArray).get? b = some o := fun b o hb e => (PyProof.Rows.sortedHeap_old hb (Heap.lt_size e)).trans e
    have kS : ∀ b o, s.heap.get? b = some o → (sortedHeap h2 h'.objs.size (as.map Value.ref) out.toArray).get? b = some o := fun b o e => kF b o (ne0 _ _ (hk b o e)) (kb b o e)
    obtain ⟨eF, heF⟩ := PyProof.Rows.sortedHeap_at (vs := as.map Value.ref) (out := out.toArray) hob
    have I1 : Inv X pins σ H { s with heap := sortedHeap h2 h'.objs.size (as.map Value.ref) out.toArray, toks := tk } := I.kept (t' := tk) kS
    have hn0 : H h'.objs.size = none := I.hok.fresh (Nat.le_of_lt hlt)
    have hlen : (zs.map fun z => V.ref z.1).length ≤ sizeLine := by
      have e := hperm.length_eq
      rw [List.length_map] at e
      rw [List.length_map, sizeLine_eq]
      omega
    have rv : Vals (zs.map fun z => V.ref z.1) out := by
      rw [hout]
      exact vals_maps (fun z : Addr × Int × Int => V.ref z.1) (fun z => Value.ref z.1) zs fun _ _ => rfl
    have I2 : Inv X pins σ (upd H h'.objs.size (.lst (zs.map fun z => V.ref z.1))) { s with heap := sortedHeap h2 h'.objs.size (as.map Value.ref) out.toArray, toks := tk } :=
      I1.take (h' := sortedHeap h2 h'.objs.size (as.map Value.ref) out.toArray) (t' := tk) (fun b ob _ e => e) (I.fpOk (Nat.le_of_lt hlt) hn0) ⟨hlen, out, eF, rv, heF⟩
    obtain ⟨H2, I3, g, qt⟩ := DX.takeT (P := fun b vs => ∃ (j : Nat) (e : Int × Int), as[j]? = some b ∧ ks[j]? = some e ∧ vs = [.int e.1, .int e.2]) I as _ I2 nd fun b hb => by
      obtain ⟨j, hj⟩ := List.mem_iff_getElem?.mp hb
      obtain ⟨e, t, u, he, hg⟩ := pr j b hj
      have hbl : s.heap.objs.size ≤ b := Nat.le_of_lt (hG.above b hb)
      refine ⟨hbl, ?_, [.int e.1, .int e.2], ⟨j, e, hj, he, rfl⟩, fun H3 => ⟨(by rw [sizeLine_eq]; show 2 ≤ 16777216; omega), [Value.int e.1 t, Value.int e.2 u], .cons ⟨t, rfl⟩ (.cons ⟨u, rfl⟩ .nil), ⟨_, kF _ _ (ne0 _ _ hg) (ka _ _ hg), rfl, 0, rfl⟩⟩⟩
      rw [upd_ne (ne0 _ _ hg)]
      exact I.hok.fresh hbl
    have gr : ∀ b o, H b = some o → H2 b = some o := fun b o e => g b o (by rw [upd_ne (ne_of_none e hn0)]; exact e)
    refine ⟨.ref h'.objs.size, H2, I3, rfl, q H2 h'.objs.size zs gr hn0 (fun z' hz' => ?_) hperm hsort (g _ _ upd_same) fun z' hz' => ?_⟩
    · obtain ⟨i, i1, i2⟩ := idx z' hz'
      exact I.hok.fresh (Nat.le_of_lt (hG.above _ (List.mem_of_getElem? i1)))
    obtain ⟨i, i1, i2⟩ := idx z' hz'
    obtain ⟨vs, ⟨j, e, j1, j2, ev⟩, hH⟩ := qt z'.1 (List.mem_of_getElem? i1)
    have eij : i = j := (List.getElem?_inj (List.getElem?_eq_some_iff.mp i1).1 nd).mp (i1.trans j1.symm)
    subst eij
    have ee : e = z'.2 := Option.some.inj (j2.symm.trans i2)
    rw [ev, ee] at hH
    exact hH
end
end DX2
end L2
namespace Mir
open PySem L2
section
variable {K : PySem.W.Frag} {S α β ζ : Type} [SH S] [Rp α] [Rp β] {Γ : S → List Sl} {Γ1 : List Sl} {te ta tb : TE} {tl : TA}
/-- not xs, as a value -/
theorem ep_notL {xs : List α} (h : EP te Γ1 (pv K xs)) : EP (tNotT K te) Γ1 (pv K xs.isEmpty) := fun I F N σ e d Q q => h I F N σ e d _ fun v I1 a1 d1 ⟨a, vs, h1, h2, h3⟩ => by
  subst h1
  refine ⟨!vs.isEmpty, .inl ⟨vs, SqL.of (ex_ov d1 _ _ h2), rfl⟩, ?_⟩
  have e : vs.isEmpty = xs.isEmpty := by cases h3 <;> rfl
  rw [e, Bool.not_not]
  exact q _ I1 a1 d1 rfl
/-- enumerate(xs) -/
theorem it_enum {a : Addr} {xs : List α} {vs : List V} {I : Hp} (h : SqL K I a vs) (r : Rs K xs I vs) : ItOk K (Ite K a) I (enumL xs) := fun I1 N1 a1 d1 => by
  have h1 : SqL K (ov N1 I1) a vs := sql_up (a1.trans (ex_ov d1)) h
  refine ⟨fun i x hx => ?_, ⟨vs, h1, by unfold enumL; rw [List.length_map, List.length_zipIdx, r.length]; exact Nat.le_refl _⟩⟩
  unfold enumL at hx
  rw [List.getElem?_map] at hx
  obtain ⟨z, hz, rfl⟩ := Option.map_eq_some_iff.mp hx
  rw [List.getElem?_zipIdx] at hz
  obtain ⟨y, hy, rfl⟩ := Option.map_eq_some_iff.mp hz
  obtain ⟨v, e1, e2⟩ := r.get hy
  refine ⟨⟨vs, v, h1, e1⟩, fun u H' ⟨T, x', y1, y2, y3, y4⟩ => ?_⟩
  have e3 := y4 vs h1
  rw [e1] at e3
  cases e3
  obtain ⟨m1, m2, m3, m4⟩ := mk_tup (K := K) (vs := [.int (i : Nat), v]) d1 y2
  refine ⟨_, by rw [y3, m4], m1, m2, T, _, v, y1, m3, ?_, Rp.up (a1.trans m1) e2⟩
  show V.int (i : Nat) = V.int ((0 + i : Nat) : Int)
  rw [Nat.zero_add]
theorem im_enum {m : Mn S ζ} {f : ζ → List α} (h : AM tl Γ m fun z => [pv K (f z)]) : IM K (iEnum K tl) Γ (mb m fun z => mp (enumL (f z))) := fun s I F N σ e d Rr q =>
  h s I F N σ e d _ (R.sat_imp (sat_mb.mp q) fun z s1 q vs I1 N1 a1 d1 e1 r1 => by
    obtain ⟨u, us, rfl, ⟨a, xs, x1, x2, x3⟩, r1⟩ := all2_c r1
    cases all2_n r1
    exact ⟨a, xs, by rw [x1], SqL.of (ex_ov d1 _ _ x2), q _ I1 N1 a1 d1 e1 (it_enum (SqL.of x2) x3)⟩)
/-! ### dicts of ints to ints -/
abbrev entI (e : Int × Int) : Key × V := DX2.entI e
def putI (kvs : List (Int × Int)) (k v : Int) : List (Int × Int) := if (kvs.any fun kv => decide (kv.1 = k)) = true then kvs.map (fun kv => if kv.1 = k then (kv.1, v) else kv) else kvs ++ [(k, v)]
def mergeI (xs : List (Int × Int)) : List (Int × Int) := xs.foldl (fun acc kv => putI acc kv.1 kv.2) []
theorem putI_eq (kvs : List (Int × Int)) (k v : Int) : putK (kvs.map entI) (Sum.inl k) (V.int v) = (putI kvs k v).map entI := by
  have e : ((kvs.map entI).any fun kv => decide (kv.1 = (Sum.inl k : Key))) = kvs.any fun kv => decide (kv.1 = k) := by
    rw [List.any_map]
    congr 1
    funext kv
    show decide ((Sum.inl kv.1 : Key) = Sum.inl k) = decide (kv.1 = k)
    by_cases h : kv.1 = k
    · rw [h]; simp
    · rw [decide_eq_false h, decide_eq_false fun q => h (Sum.inl.inj q)]
  unfold putK putI
  rw [e]
  by_cases h : (kvs.any fun kv => decide (kv.1 = k)) = true
  · rw [if_pos h, if_pos h, List.map_map, List.map_map]
    congr 1
    funext kv
    show (if (Sum.inl kv.1 : Key) = Sum.inl k then ((Sum.inl kv.1 : Key), V.int v) else entI kv) = entI (if kv.1 = k then (kv.1, v) else kv)
    by_cases h : kv.1 = k
    · rw [if_pos (by rw [h]), if_pos h]
    · rw [if_neg fun q => h (Sum.inl.inj q), if_neg h]
  · rw [if_neg h, if_neg h, List.map_append]
    rfl
theorem mergeI_go : ∀ (xs acc : List (Int × Int)), mergeK (acc.map entI) (xs.map entI) = (xs.foldl (fun acc kv => putI acc kv.1 kv.2) acc).map entI
  | [], acc => rfl
  | x :: xs, acc => by
    show mergeK (putK (acc.map entI) (Sum.inl x.1) (V.int x.2)) (xs.map entI) = _
    rw [putI_eq, mergeI_go xs]
    rfl
/-- an owned dict -/
def od (kvs : List (Int × Int)) : OP := ⟨fun _ a M => M = sing a (.dK (kvs.map entI)), fun _ h => h⟩
def rDictP (K : PySem.W.Frag) : List V → Hp → VK → Prop := fun xs H Q => ∃ (a : Addr) (ps : List Addr) (kvs : List (Key × V)), xs = [.ref a] ∧ SqL K H a (ps.map V.ref) ∧ Paired (fun p kv => SqT K H p [kV kv.1, kv.2]) ps kvs ∧ ∀ p, H p = none → Q (.ref p) (upd H p (.dK (mergeK [] kvs)))
theorem rs_pairs {xs : List (Int × Int)} {vs : List V} {I : Hp} (h : Rs K xs I vs) : ∃ ps : List Addr, vs = ps.map V.ref ∧ Paired (fun p kv => SqT K I p [kV kv.1, kv.2]) ps (xs.map entI) := by
  induction h with
  | nil => exact ⟨[], rfl, .nil⟩
  | cons h t ih =>
    obtain ⟨ps, e, p⟩ := ih
    obtain ⟨a, v1, v2, h1, h2, h3, h4⟩ := h
    have e1 : v1 = V.int _ := h3
    have e2 : v2 = V.int _ := h4
    subst e1 e2
    exact ⟨a :: ps, by rw [h1, e]; rfl, .cons h2 p⟩
/-- dict(xs), xs a list of pairs -/
theorem eo_dict {m : Mn S (List (Int × Int))} (h : EM K te Γ m) : EO (tCB (rDictP K) (tCons te tNil)) Γ (mb m fun xs => mp (mergeI xs)) (rOw od) := fun s I F N σ e d Q q => h s I F N σ e d _ (R.sat_imp (sat_mb.mp q) fun xs s1 q v I1 N1 a1 d1 e1 ⟨a, vs, h1, h2, h3⟩ => by
  obtain ⟨ps, e9, p9⟩ := rs_pairs h3
  refine ⟨a, ps, xs.map entI, by rw [h1], SqL.of (by rw [← e9]; exact ex_ov d1 _ _ h2), ?_, fun p hp => ?_⟩
  · have up : ∀ {ps : List Addr} {kvs : List (Key × V)}, Paired (fun p kv => SqT K I1 p [kV kv.1, kv.2]) ps kvs → Paired (fun p kv => SqT K (ov N1 I1) p [kV kv.1, kv.2]) ps kvs := fun {ps kvs} z => by
      induction z with
      | nil => exact .nil
      | cons h t ih => exact .cons (sqt_ov d1 h) ih
    exact up p9
  · obtain ⟨x1, x2⟩ := ov_none hp
    have e3 : mergeK [] (xs.map entI) = (mergeI xs).map entI := mergeI_go xs []
    refine q _ _ I1 N1 a1 e1 ⟨p, _, rfl, dis_sing x1, dis_ov (dis_sing x2) d1, ?_, rfl⟩
    rw [e3, upd_sing, ov_assoc])
/-- d[k] = v -/
theorem rp_dset {kvs : List (Int × Int)} {j : Nat} {m1 m2 : Mn S Int} {Γ' : List (Int × Int) → S → List Sl} (hj : ∀ s, (Γ s)[j]? = some (.ow (od kvs))) (h : EM K te Γ m1) (h2 : EM K tb Γ m2) (hΓ : ∀ ys s, (Γ s).set j (.ow (od ys)) = Γ' ys s) : RP (sDPut (tVar j) tb te) Γ (mb m1 fun v => mb m2 fun k => mc (decide (kvs.length < 10000)) (putI kvs k v)) Γ' := fun s I F N σ e d D q =>
  h s I F N σ e d _ (R.sat_imp (sat_mb.mp q) fun v s1 q w I1 N1 a1 d1 e1 r1 => by
    obtain ⟨a, Ma, M', g1, _⟩ := e1.foc (hj s1)
    refine ⟨_, g1, h2 s1 I1 F N1 σ e1 d1 _ (R.sat_imp (sat_mb.mp q) fun k s2 q u I2 N2 a2 d2 e2 r2 => ?_)⟩
    obtain ⟨c, q⟩ := sat_mc.mp q
    have c := of_decide_eq_true c
    obtain ⟨a', Ma', M2, g1', g2', g3', g4', g5', _⟩ := e2.foc (hj s2)
    rw [g1] at g1'
    cases g1'
    have g2'' : Ma' = sing a (.dK (kvs.map entI)) := g2'
    subst g2'' g4'
    obtain ⟨y1, y2⟩ := dis_ov_l d2
    have e1' : w = V.int v := r1
    have e2' : u = kV (Sum.inl k) := r2
    subst e1' e2'
    refine ⟨a, _, rfl, DPut.k (ov_l (ov_l sing_same)) (by rw [List.length_map]; exact Nat.lt_of_lt_of_le c (by decide)), ?_⟩
    rw [putI_eq, upd_own]
    have z1 : Dis (sing a (.dK ((putI kvs k v).map entI))) M2 := dis_sing (g3'.some_l sing_same)
    have z2 : Dis (sing a (.dK ((putI kvs k v).map entI))) I2 := dis_sing (y1.some_l sing_same)
    exact q I2 _ σ (a1.trans a2) (dis_ov z2 y2) (by rw [← hΓ]; exact g5' I2 (od (putI kvs k v)) _ (Ex.refl I2) z1 rfl))
def srtP (xs : List (Int × Int)) : List (Int × Int) := xs.mergeSort fun a b => !SrtO.lexB b a
theorem srtP_perm (xs : List (Int × Int)) : (srtP xs).Perm xs := List.mergeSort_perm _ _
theorem srtP_pw (xs : List (Int × Int)) : (srtP xs).Pairwise fun a b => SrtO.lexB b a = false := by
  have h := List.pairwise_mergeSort (le := fun a b : Int × Int => !SrtO.lexB b a) (fun a b c h1 h2 => by
    have h1 := SrtO.lexB_no.mp (by simpa using h1)
    have h2 := SrtO.lexB_no.mp (by simpa using h2)
    have : SrtO.lexB c a = false := SrtO.lexB_no.mpr (by omega)
    simp [this]) (fun a b => by
    cases h : SrtO.lexB b a with
    | false => rfl
    | true =>
      have h1 := SrtO.lexB_iff.mp h
      have : SrtO.lexB a b = false := SrtO.lexB_no.mpr (by omega)
      simp [this]) xs
  exact h.imp fun {a b} q => by simpa using q
theorem srtP_eq {xs ys : List (Int × Int)} (p : ys.Perm xs) (h : ys.Pairwise fun a b => SrtO.lexB b a = false) : ys = srtP xs :=
  List.Perm.eq_of_pairwise (fun a b _ _ h1 h2 => by
    have h1 := SrtO.lexB_no.mp h1
    have h2 := SrtO.lexB_no.mp h2
    exact Prod.ext (by omega) (by omega)) h (srtP_pw xs) (p.trans (srtP_perm xs).symm)
/-- sorted(d.items()) -/
theorem em_sortI {kvs : List (Int × Int)} {j : Nat} (hj : ∀ s, (Γ s)[j]? = some (.ow (od kvs))) : EM K (tCB DX2.rSortI (tCons (tBM0 K "dict" DX2.rItemsI (tVar j)) tNil)) Γ (mc (decide (kvs.length ≤ 10000)) (srtP kvs)) := fun s I F N σ e d Q q => by
  obtain ⟨c, q⟩ := sat_mc.mp q
  have c := of_decide_eq_true c
  obtain ⟨a, Ma, M', g1, g2, g3, g4, _⟩ := e.foc (hj s)
  have g2' : Ma = sing a (.dK (kvs.map entI)) := g2
  have hN : N a = some (.dK (kvs.map entI)) := by rw [g4, g2']; exact ov_l sing_same
  refine ⟨_, g1, .inr (.inr (.inl ⟨rfl, .inl ⟨_, ov_l hN⟩⟩)), a, _, rfl, rfl, ov_l hN, fun p hp => ?_⟩
  obtain ⟨x1, x2⟩ := ov_none hp
  have hpa : a ≠ p := fun z => by rw [z] at hN; rw [x1] at hN; cases hN
  refine ⟨p, a, kvs, rfl, upd_same, by rw [upd_ne hpa]; exact ov_l hN, c, fun H' q' zs k1 f1 f2 k2 k3 k4 k5 => ?_⟩
  have kk : ∀ b o, ov N I b = some o → H' b = some o := fun b o h => k1 b o (by rw [upd_ne (fun z => by rw [z, hp] at h; cases h)]; exact h)
  have eH : H' = ov N (fun b => match N b with | some _ => none | none => H' b) := by
    funext b
    cases hb : N b with
    | some o => rw [ov_l hb]; exact kk b o (ov_l hb)
    | none =>
      rw [ov_r hb]
      show H' b = match N b with | some _ => none | none => H' b
      rw [hb]
  have exI : Ex I (fun b => match N b with | some _ => none | none => H' b) := fun b o h => by
    have hb := d.some_r h
    show (match N b with | some _ => none | none => H' b) = some o
    rw [hb]
    exact kk b o (by rw [ov_r hb]; exact h)
  have dI : Dis N (fun b => match N b with | some _ => none | none => H' b) := fun b => by
    cases hb : N b with
    | none => exact .inl rfl
    | some o => refine .inr ?_; show (match N b with | some _ => none | none => H' b) = none; rw [hb]
  have inI : ∀ b o, H' b = some o → N b = none → (fun b => match N b with | some _ => none | none => H' b) b = some o := fun b o h hb => by
    show (match N b with | some _ => none | none => H' b) = some o
    rw [hb]
    exact h
  have off : ∀ b, upd (ov N I) p (DX.itemsO p a) b = none → N b = none := fun b h => by
    by_cases eb : b = p
    · subst eb; exact x1
    · rw [upd_ne eb] at h; exact (ov_none h).1
  have ez : zs.map (·.2) = srtP kvs := srtP_eq k2 k3
  rw [eH]
  refine q (.ref q') _ N exI dI (e.up exI) ⟨q', _, rfl, inI _ _ k4 (off _ f1), ?_⟩
  rw [← ez]
  have go : ∀ l : List (Addr × Int × Int), (∀ z ∈ l, z ∈ zs) → Rs K (l.map (·.2)) (fun b => match N b with | some _ => none | none => H' b) (l.map fun z => V.ref z.1) := fun l => by
    induction l with
    | nil => exact fun _ => .nil
    | cons z l ih =>
      intro hl
      have hz := hl z (List.mem_cons_self ..)
      exact .cons ⟨z.1, _, _, rfl, .inl (.inl (inI _ _ (k5 z hz) (off _ (f2 z hz)))), rfl, rfl⟩ (ih fun y hy => hl y (List.mem_cons_of_mem _ hy))
  exact go zs fun _ h => h
end
end Mir

/-! Mir25: what can't be, insertion -/
namespace Mir
open PySem L2
section
variable {K : PySem.W.Frag} {S α β ζ ρ τ : Type} [SH S] [Rp α] [Rp β] {Γ : S → List Sl} {Γ1 : List Sl} {te ta tb : TE} {tl : TA}
theorem rp_bad {t : TS} {Γ' : τ → S → List Sl} : RP t Γ mbad Γ' := fun s I F N σ e d D q => q.elim
theorem em_bad : EM K te Γ (mbad : Mn S α) := fun s I F N σ e d Q q => q.elim
def insOk (n : Nat) (i : Int) : Bool := decide (n < 16000000 ∧ 0 ≤ i ∧ i < 2 ^ 62)
def insL {δ : Type} (xs : List δ) (i : Int) (x : δ) : List δ := xs.take i.toNat ++ [x] ++ xs.drop i.toNat
end
theorem hu1 {k : Nat} {A : PySem.Around} (hr : Room k A) : A.units + 1 < cLine := Nat.lt_of_le_of_lt (Nat.add_le_add_left (by decide) _) (hu64 hr)
section
variable {K : PySem.W.Frag} {α β γ δ ε : Type} [Rp α] [Rp β] [Rp γ] [Rp δ] [Rp ε] {x : T5 α β γ δ ε}
theorem pr5_0 : Op2 (rIxT K) (pv K x) (pv K (0 : Int)) (pv K x.a) := o_pr fun I v ⟨a, v1, v2, v3, v4, v5, h1, h2, h3, h4, h5, h6, h7⟩ => ⟨a, _, v1, h1, h2, rfl, h3⟩
theorem pr5_1 : Op2 (rIxT K) (pv K x) (pv K (1 : Int)) (pv K x.b) := o_pr fun I v ⟨a, v1, v2, v3, v4, v5, h1, h2, h3, h4, h5, h6, h7⟩ => ⟨a, _, v2, h1, h2, rfl, h4⟩
theorem pr5_2 : Op2 (rIxT K) (pv K x) (pv K (2 : Int)) (pv K x.c) := o_pr fun I v ⟨a, v1, v2, v3, v4, v5, h1, h2, h3, h4, h5, h6, h7⟩ => ⟨a, _, v3, h1, h2, rfl, h5⟩
theorem pr5_3 : Op2 (rIxT K) (pv K x) (pv K (3 : Int)) (pv K x.d) := o_pr fun I v ⟨a, v1, v2, v3, v4, v5, h1, h2, h3, h4, h5, h6, h7⟩ => ⟨a, _, v4, h1, h2, rfl, h6⟩
theorem pr5_4 : Op2 (rIxT K) (pv K x) (pv K (4 : Int)) (pv K x.e) := o_pr fun I v ⟨a, v1, v2, v3, v4, v5, h1, h2, h3, h4, h5, h6, h7⟩ => ⟨a, _, v5, h1, h2, rfl, h7⟩
end
theorem bt_dict : bootBuiltins "dict" = some (.type "dict") := by decide +kernel
end Mir

/-! Mir26: ranges downwards; items of owned lists; pop in an expression; owned results by a test; code that is not reached -/
namespace Mir
open PySem L2
section
variable {K : PySem.W.Frag}
/-- a, a - 1, .. -/
def rngD (a : Int) (n : Nat) : List Int := (List.range n).map fun i => a - (i : Nat)
theorem rngD_len {a : Int} {n : Nat} : (rngD a n).length = n := by unfold rngD; rw [List.length_map, List.length_range]
theorem rngD_get {a : Int} {n i : Nat} {x : Int} (h : (rngD a n)[i]? = some x) : i < n ∧ x = a - (i : Nat) := by
  have hi : i < n := by
    have := (List.getElem?_eq_some_iff.mp h).1
    rw [rngD_len] at this
    exact this
  unfold rngD at h
  rw [List.getElem?_map, List.getElem?_range hi] at h
  exact ⟨hi, (Option.some.inj h).symm⟩
theorem it_rngD {a : Int} {n : Nat} {I : Hp} : ItOk K (Itc a (-1) n) I (rngD a n) := fun I1 N1 a1 d1 => by
  refine ⟨fun i x hx => ?_, by rw [rngD_len]; exact Nat.le_refl _⟩
  obtain ⟨h1, h2⟩ := rngD_get hx
  refine ⟨h1, fun u H' ⟨y1, y2⟩ => ⟨I1, y1, Ex.refl I1, d1, ?_⟩⟩
  rw [h2, y2]
  show V.int _ = V.int _
  congr 1
  omega
section
variable {S α β γ ρ τ ζ : Type} [SH S] [Rp α] [Rp β] {Γ : S → List Sl} {te ta tb : TE} {tl : TA}
theorem im_rng3D {m : Mn S ζ} {f g k : ζ → Int} (h : AM tl Γ m fun z => [pv K (f z), pv K (g z), pv K (k z)]) : IM K (iRng3 tl) Γ (mb m fun z => mc (b62 (f z) && b62 (g z) && decide (k z = -1)) (rngD (f z) (f z - g z).toNat)) := fun s I F N σ e d Rr q =>
  h s I F N σ e d _ (R.sat_imp (sat_mb.mp q) fun z s1 q vs I1 N1 a1 d1 e1 r1 => by
  obtain ⟨c, q⟩ := sat_mc.mp q
  obtain ⟨c, c3⟩ := Bool.and_eq_true_iff.mp c
  obtain ⟨c1, c2⟩ := Bool.and_eq_true_iff.mp c
  have c1 := of_decide_eq_true c1
  have c2 := of_decide_eq_true c2
  have c3 := of_decide_eq_true c3
  obtain ⟨v, _, rfl, r, r1⟩ := all2_c r1
  obtain ⟨w, _, rfl, r', r1⟩ := all2_c r1
  obtain ⟨u, _, rfl, r'', r1⟩ := all2_c r1
  cases all2_n r1
  rw [c3] at r''
  cases (show v = V.int (f z) from r)
  cases (show w = V.int (g z) from r')
  cases (show u = V.int (-1) from r'')
  exact ⟨f z, g z, -1, _, rfl, RgC.neg c1.1 c1.2 c2.1 c2.2, q _ I1 N1 a1 d1 e1 it_rngD⟩)
/-- an owned result by a test -/
theorem eo_if {tt : TT} {m : Mn S Bool} {m1 m2 : Mn S ρ} {Ret : RetT ρ} (h : TM tt Γ m) (h1 : EO ta Γ m1 Ret) (h2 : EO tb Γ m2 Ret) : EO (tIf tt ta tb) Γ (mb m fun b => mi b m1 m2) Ret := fun s I F M σ e d Q q => h s I F M σ e d _ (R.sat_imp (sat_mb.mp q) fun b s1 q I1 M1 a1 d1 e1 => by
  cases b with
  | true => exact h1 s1 I1 F M1 σ e1 d1 Q (R.sat_imp q fun b s2 q v H2 I2 M2 a2 e2 => q v H2 I2 M2 (a1.trans a2) e2)
  | false => exact h2 s1 I1 F M1 σ e1 d1 Q (R.sat_imp q fun b s2 q v H2 I2 M2 a2 e2 => q v H2 I2 M2 (a1.trans a2) e2))
/-- is None, of what is never None -/
theorem o_isNnn [Nn α] {x : α} : Op2 (fun x y H Q => y = .non ∧ Q (.bl (decide (x = .non))) H) (pv K x) (pv K ()) (pv K false) := fun I M u v Q d hx hy k => by
  refine ⟨hy, ?_⟩
  rw [decide_eq_false (Nn.nn hx)]
  exact k _ I (Ex.refl I) d rfl
theorem o_notNnn [Nn α] {x : α} : Op2 (fun x y H Q => y = .non ∧ Q (.bl (!decide (x = .non))) H) (pv K x) (pv K ()) (pv K true) := fun I M u v Q d hx hy k => by
  refine ⟨hy, ?_⟩
  rw [decide_eq_false (Nn.nn hx)]
  exact k _ I (Ex.refl I) d rfl
theorem o_isNon : Op2 (fun x y H Q => y = .non ∧ Q (.bl (decide (x = .non))) H) (pv K ()) (pv K ()) (pv K true) := fun I M u v Q d hx hy k => by
  refine ⟨hy, ?_⟩
  rw [decide_eq_true (show u = V.non from hx)]
  exact k _ I (Ex.refl I) d rfl
/-- an item of an owned list -/
theorem em_ixO {j : Nat} {xs : List α} {m : Mn S Int} (hj : ∀ s, (Γ s)[j]? = some (.ow (ol K xs))) (h : EM K tb Γ m) : EM K (tOp (rIxL K) (tVar j) tb) Γ (mb m fun i => mo (atI xs i)) := fun s I F N σ e d Q q => by
  obtain ⟨a, vs, h1, h2, h3⟩ := own_at e (hj s)
  refine ⟨_, h1, h s I F N σ e d _ (R.sat_imp (sat_mb.mp q) fun i s1 q v I1 N1 a1 d1 e1 r1 => ?_)⟩
  obtain ⟨z, hz, q⟩ := sat_mo.mp q
  obtain ⟨a', us, h1', h2', h3'⟩ := own_at e1 (hj s1)
  rw [h1] at h1'
  cases h1'
  obtain ⟨w, q1, q2⟩ := rs_at h3' hz
  exact ⟨a, us, i, w, rfl, r1, SqL.of (ov_l h2'), q1, q w I1 N1 a1 d1 e1 q2⟩
/-- an expression that changes what is owned -/
def EX (K : PySem.W.Frag) (te : TE) (Γ : S → List Sl) (m : Mn S (α × τ)) (Γ' : τ → S → List Sl) : Prop := ∀ (s : S) (I F N : Hp) (σ : L2.St), EnvG s I F N σ (Γ s) → Dis N I → ∀ Q : VK,
  (m s).sat (fun x s' => ∀ v I' N', Ex I I' → Dis N' I' → EnvG s' I' F N' σ (Γ' x.2 s') → Rp.r K x.1 I' v → Q v (ov N' I')) → te σ (ov N I) Q
def popX {α : Type} (xs : List α) (i : Int) : Option (α × List α) := if decide (-(2 ^ 63) ≤ i ∧ i < 2 ^ 63) = true then (ixN xs.length i).bind fun k => xs[k]?.map fun x => (x, xs.eraseIdx k) else none
theorem ex_pop {j : Nat} {xs : List α} {m : Mn S Int} {Γ' : List α → S → List Sl} (hj : ∀ s, (Γ s)[j]? = some (.ow (ol K xs))) (h : EM K te Γ m) (hΓ : ∀ ys s, (Γ s).set j (.ow (ol K ys)) = Γ' ys s) : EX K (tBM K "list" rPopAt (tVar j) (tCons te tNil)) Γ (mb m fun i => mo (popX xs i)) Γ' := fun s I F N σ e d Q q => by
  obtain ⟨a, vs, h1, h2, h3⟩ := own_at e (hj s)
  refine ⟨_, h1, .inl ⟨rfl, vs, SqL.of (ov_l h2)⟩, h s I F N σ e d _ (R.sat_imp (sat_mb.mp q) fun i s1 q v I1 N1 a1 d1 e1 r1 => ?_)⟩
  obtain ⟨⟨x, ys⟩, hy, q⟩ := sat_mo.mp q
  unfold popX at hy
  by_cases c : decide (-(2 ^ 63) ≤ i ∧ i < 2 ^ 63) = true
  · rw [if_pos c] at hy
    have c := of_decide_eq_true c
    obtain ⟨k, hk, hy⟩ := Option.bind_eq_some_iff.mp hy
    obtain ⟨x', hx, hy⟩ := Option.map_eq_some_iff.mp hy
    cases hy
    obtain ⟨a', us, h1', h2', h3'⟩ := own_at e1 (hj s1)
    rw [h1] at h1'
    cases h1'
    rw [h3'.length] at hk
    obtain ⟨k1, k2, _⟩ := ixN_seq hk
    obtain ⟨w, w1, w2⟩ := h3'.get hx
    refine ⟨a, us, i, k, w, rfl, by rw [show v = V.int i from r1], ov_l h2', c.1, c.2, k1, w1, ?_⟩
    obtain ⟨N2, x1, x2, x3⟩ := own_upd (P' := ol K (xs.eraseIdx k)) (us := us.eraseIdx k) (vs := us) (I' := I1) (N' := N1) e1 d1 (hj s1) h1 ol_sing ⟨_, rfl, All2.eraseIdx k h3'⟩
    rw [x1]
    exact q w I1 N2 a1 x2 (by rw [← hΓ]; exact x3) w2
  · rw [if_neg c] at hy
    cases hy
/-- ys.append(e), e changes what is owned -/
theorem rp_appX {j : Nat} {zs : List α} {m : Mn S (α × τ)} {Γ1 : τ → S → List Sl} {Γ' : List α × τ → S → List Sl} (hj : ∀ s, (Γ s)[j]? = some (.ow (ol K zs))) (hj1 : ∀ t s, (Γ1 t s)[j]? = some (.ow (ol K zs))) (h : EX K te Γ m Γ1) (hΓ : ∀ y s, (Γ1 y.2 s).set j (.ow (ol K y.1)) = Γ' y s) : RP (tDrop (tBM K "list" rAppend (tVar j) (tCons te tNil))) Γ (mb m fun x => mc (lenOk zs.length) (zs ++ [x.1], x.2)) Γ' := fun s I F N σ e d D q => by
  obtain ⟨a, vs, h1, h2, h3⟩ := own_at e (hj s)
  refine ⟨_, h1, .inl ⟨rfl, vs, SqL.of (ov_l h2)⟩, h s I F N σ e d _ (R.sat_imp (sat_mb.mp q) fun x s1 q v I1 N1 a1 d1 e1 r1 => ?_)⟩
  obtain ⟨c, q⟩ := sat_mc.mp q
  have c := of_decide_eq_true c
  obtain ⟨a', us, h1', h2', h3'⟩ := own_at e1 (hj1 x.2 s1)
  rw [h1] at h1'
  cases h1'
  refine ⟨a, us, v, rfl, rfl, ov_l h2', sz16 (by rw [← h3'.length]; exact c), ?_⟩
  obtain ⟨N2, x1, x2, x3⟩ := own_upd (P' := ol K (zs ++ [x.1])) (us := us ++ [v]) (vs := us) (I' := I1) (N' := N1) e1 d1 (hj1 x.2 s1) h1 ol_sing ⟨_, rfl, h3'.append (.cons r1 .nil)⟩
  rw [x1]
  exact q I1 N2 σ a1 x2 (by rw [← hΓ]; exact x3)
/-! ### code that is not reached -/
variable {t : TS} {Γr : S → List Sl} {Γ' : τ → S → List Sl} {Γb : β → S → List Sl} {Ret : RetT ρ}
theorem rt_bad : RT Ret t Γ (mbad : Mn S ρ) Γr := fun s I F N σ e d D q => q.elim
theorem rn_bad : RN Ret t Γ (mbad : Mn S ρ) Γr := fun s I F N σ e d D _ q => q.elim
theorem rc_bad : RC Ret t Γ (mbad : Mn S (Ct ρ τ β)) Γr Γ' Γb := fun s I F N σ e d D q => q.elim
theorem rx_bad : RX Ret t Γ (mbad : Mn S (Ct ρ τ β)) Γr Γb := fun s I F N σ e d D q => q.elim
theorem em_any {te : TE} : EM K te Γ (mbad : Mn S α) := fun s I F N σ e d Q q => q.elim
end
end
end Mir

/-! Mir27: tuple * 1, the same tuple -/
namespace L2
open PySem PySem.Spec PyProof.Rows
set_option maxHeartbeats 4000000 in
theorem tuple_mul1 (l : Addr) (items : Array Value) (n : Nat) (dd : Option Addr) (sl : Array (Option Value)) (u : Tok) :
    Meets (Builtin.«tuple.__mul__» ⟨[.ref l, .int 1 u], []⟩) (fun _ R s => s.heap.get? l = some { cls := .type "tuple", dict := dd, data := .seq items n, slots := sl } ∧ R (.ok (.ret (Value.ref l))) s) :=
  .of_wp fun prog w A R s h => by
    obtain ⟨hp, g, d, tk, os⟩ := s
    obtain ⟨hl, h⟩ := h
    have f1 := AutoSeq1.idx_int
    wp_walk using wpAny_loadPart' hl
    exact ⟨_, rfl, h⟩
def rRepTA (K : PySem.W.Frag) : R2 := fun x y H Q => rRepT K x y H Q ∨ ∃ l xs, x = .ref l ∧ y = .int 1 ∧ SqT K H l xs ∧ Q (.ref l) H
section
variable {X : Cx}
set_option maxHeartbeats 4000000 in
theorem op_repTA : OpR X (binaryOp .Mult) (rRepTA X.K) := by
  intro pins s σ H x y v u Q I rx ry h
  rcases h with h | ⟨l, xs, rfl, rfl, hT, q⟩
  · exact op_repT _ _ _ _ _ _ _ _ _ I rx ry h
  cases rx
  obtain ⟨t, rfl⟩ := ry
  obtain ⟨its, r, ⟨⟨cls, dd, data, sl⟩, ho, hc, n, hd⟩, hs⟩ := I.tuple hT
  simp only at hc hd
  subst hc hd
  refine wpAny_binaryOp_repeat_ref (T := "tuple") (U := "int") (by decide) ⟨_, ho, rfl⟩ (fun s' => typeIs_int s' 1 t) noFill_tuple_mul F.fills_int_mul F.slot_int_rmul repeat_tuple F.slot_int_index.lookup
    (call_meets F.slot_int_rmul (typeIs_int s 1 t) F.entry_int_rmul (F.args_int_rmul_2 _ _) (int_rmul_tuple 1 t l its.toArray n dd sl)
      ⟨ho, rfl, ⟨_, ho, rfl⟩, call_meets F.slot_tuple_mul ⟨_, ho, rfl⟩ F.entry_tuple_mul (F.args_tuple_mul_2 _ _) (tuple_mul1 l its.toArray n dd sl t) ⟨ho, ?_⟩⟩)
  exact ⟨.ref l, H, I, rfl, q⟩
end
end L2
namespace Mir
open PySem L2
def repTOk1 (n : Nat) (k : Int) : Bool := decide (0 < n ∧ n ≤ 1000 ∧ 1 ≤ k ∧ k ≤ 1000)
theorem o_repTA {K : PySem.W.Frag} {α : Type} [Rp α] {xs : Tu α} {k : Int} (c : repTOk1 xs.l.length k = true) : Op2 (rRepTA K) (pv K xs) (pv K k) (pv K (Tu.mk (repL xs.l k))) := fun I M u v Q d hx hy q => by
  obtain ⟨c1, c2, c3, c4⟩ := of_decide_eq_true c
  by_cases e : k = 1
  · subst e
    obtain ⟨a, vs, h1, h2, h3⟩ := hx
    refine .inr ⟨a, vs, h1, hy, sqt_ov d h2, ?_⟩
    refine q _ I (Ex.refl I) d ⟨a, vs, rfl, h2, ?_⟩
    have : repL xs.l 1 = xs.l := by unfold repL; simp
    rw [this]
    exact h3
  · exact .inl (o_repT (decide_eq_true ⟨c1, c2, by omega, c4⟩) I M u v Q d hx hy q)
end Mir

/-! Mir28: isinstance of what may be None -/
namespace Mir
open PySem L2
section
variable {K : PySem.W.Frag} {α : Type} [Rp α] {Γ1 : List Sl} {te : TE}
theorem ep_nonX (h : EP te Γ1 (pv K ())) : EP te Γ1 (pv K (none : Option α)) := h
theorem c_isiOT {x : Option α} {n t : String} (h : ∀ {y : α}, ∀ H v, (pv K y).r H v → TyX K H v (.type t)) (e : kitB t n = some true) (e0 : kitB "NoneType" n = some false) : Cb (rIsi K) [pv K x, tyPV n] (pv K x.isSome) := by
  cases x with
  | none => exact c_isi (p := pv K (none : Option α)) (b := false) (t := "NoneType") (fun H v r => ty_non (K := K) H v r) e0
  | some y => exact c_isi (p := pv K (some y)) (b := true) (t := t) (fun H v r => h H v r.1) e
theorem c_isiOF {x : Option α} {n t : String} (h : ∀ {y : α}, ∀ H v, (pv K y).r H v → TyX K H v (.type t)) (e : kitB t n = some false) (e0 : kitB "NoneType" n = some false) : Cb (rIsi K) [pv K x, tyPV n] (pv K false) := by
  cases x with
  | none => exact c_isi (p := pv K (none : Option α)) (b := false) (t := "NoneType") (fun H v r => ty_non (K := K) H v r) e0
  | some y => exact c_isi (p := pv K (some y)) (b := false) (t := t) (fun H v r => h H v r.1) e
theorem c_isi2OT {x : Option α} {n m t : String} (h : ∀ {y : α}, ∀ H v, (pv K y).r H v → TyX K H v (.type t)) (e : kitB2 t n m = some true) (e0 : kitB2 "NoneType" n m = some false) : Cb (rIsiT K) [pv K x, tyPV2 n m] (pv K x.isSome) := by
  cases x with
  | none => exact c_isi2 (p := pv K (none : Option α)) (b := false) (t := "NoneType") (fun H v r => ty_non (K := K) H v r) e0
  | some y => exact c_isi2 (p := pv K (some y)) (b := true) (t := t) (fun H v r => h H v r.1) e
theorem c_isi2OF {x : Option α} {n m t : String} (h : ∀ {y : α}, ∀ H v, (pv K y).r H v → TyX K H v (.type t)) (e : kitB2 t n m = some false) (e0 : kitB2 "NoneType" n m = some false) : Cb (rIsiT K) [pv K x, tyPV2 n m] (pv K false) := by
  cases x with
  | none => exact c_isi2 (p := pv K (none : Option α)) (b := false) (t := "NoneType") (fun H v r => ty_non (K := K) H v r) e0
  | some y => exact c_isi2 (p := pv K (some y)) (b := false) (t := t) (fun H v r => h H v r.1) e
end
section
variable {S ρ τ τ' β : Type} [SH S] {Ret : RetT ρ} {t1 t2 : TS} {Γ Γr : S → List Sl} {Γt : τ' → S → List Sl} {Γb : β → S → List Sl} {Γe : Empty → S → List Sl}
theorem rx_seqC {m1 : Mn S (Ct ρ τ' Empty)} {m2 : τ' → Mn S (Ct ρ τ β)} (h1 : RC Ret t1 Γ m1 Γr Γt Γe) (h2 : ∀ x, RX Ret t2 (Γt x) (m2 x) Γr Γb) : RX Ret (tSeq t1 t2) Γ (mb m1 (ctb m2)) Γr Γb := fun s I F N σ e d D q =>
  h1 s I F N σ e d _ (R.sat_imp (sat_mb.mp q) fun c s1 q => by
    cases c with
    | rt x => exact q
    | nx x => exact fun I1 N1 σ1 a1 d1 e1 => h2 x s1 I1 F N1 σ1 e1 d1 D (R.sat_imp q fun c s2 q => by
      cases c with
      | rt x => exact fun v H2 I2 N2 σ2 a2 e2 r2 => q v H2 I2 N2 σ2 (a1.trans a2) e2 r2
      | nx x => trivial
      | br x => exact fun I2 N2 σ2 a2 d2 e2 => q I2 N2 σ2 (a1.trans a2) d2 e2)
    | br x => exact nomatch x)
end
end Mir

/-! Mir29: owned lists and the store's lists lent out, for results that hold no list -/
namespace Mir
open PySem L2
/-- things that change -/
def mutO : HO → Bool
  | .lst _ => true
  | .dK _ => true
  | .ins _ _ _ => true
  | .own _ => true
  | _ => false
class Tp (α : Type) [Rp α] : Prop where
  tr : ∀ {K : PySem.W.Frag} {x : α} {I J : Hp} {v : V}, (∀ b u, I b = some u → mutO u = false → J b = some u) → Rp.r K x I v → Rp.r K x J v
theorem sqt_tr {K : PySem.W.Frag} {I J : Hp} {a : Addr} {vs : List V} (k : ∀ b u, I b = some u → mutO u = false → J b = some u) (h : SqT K I a vs) : SqT K J a vs := by
  rcases h with (h | ⟨o, h⟩) | h
  · exact .inl (.inl (k _ _ h rfl))
  · exact .inl (.inr ⟨o, k _ _ h rfl⟩)
  · exact .inr h
instance tpInt : Tp Int := ⟨fun _ h => h⟩
instance tpBool : Tp Bool := ⟨fun _ h => h⟩
instance tpStr : Tp Str := ⟨fun _ h => h⟩
instance tpUnit : Tp Unit := ⟨fun _ h => h⟩
instance tpRef : Tp Ref := ⟨fun _ h => h⟩
section
variable {α β : Type} [Rp α] [Rp β]
instance tpProd [Tp α] [Tp β] : Tp (α × β) := ⟨fun k ⟨a, v1, v2, h1, h2, h3, h4⟩ => ⟨a, v1, v2, h1, sqt_tr k h2, Tp.tr k h3, Tp.tr k h4⟩⟩
instance tpOpt [Tp α] : Tp (Option α) := ⟨fun {K x I J v} k h => by
  cases x with
  | none => exact h
  | some y => exact ⟨Tp.tr k h.1, h.2⟩⟩
theorem rs_tr [Tp α] {K : PySem.W.Frag} {I J : Hp} (k : ∀ b u, I b = some u → mutO u = false → J b = some u) {xs : List α} {vs : List V} (h : Rs K xs I vs) : Rs K xs J vs := h.imp fun _ _ q => Tp.tr k q
instance tpTu [Tp α] : Tp (Tu α) := ⟨fun k ⟨a, vs, h1, h2, h3⟩ => ⟨a, vs, h1, sqt_tr k h2, rs_tr k h3⟩⟩
end
/-- what is owned changes -/
def lkP (P : OP) : Prop := ∀ I a Ma, P.r I a Ma → ∀ b u, Ma b = some u → mutO u = true
inductive LkG : List Sl → Prop where
  | nil : LkG []
  | no {Γ : List Sl} : LkG Γ → LkG (.no :: Γ)
  | im {Γ : List Sl} {p : PV} : LkG Γ → LkG (.im p :: Γ)
  | ow {Γ : List Sl} {P : OP} : lkP P → LkG Γ → LkG (.ow P :: Γ)
section
variable {K : PySem.W.Frag}
theorem lk_ol {α : Type} [Rp α] {xs : List α} : lkP (ol K xs) := fun I a Ma ⟨vs, h, _⟩ b u e => by
  rw [h] at e
  unfold sing upd at e
  by_cases c : b = a
  · rw [if_pos c] at e; cases e; rfl
  · rw [if_neg c] at e; cases e
theorem lk_od {kvs : List (Int × Int)} : lkP (od kvs) := fun I a Ma h b u e => by
  rw [show Ma = sing a (.dK (kvs.map entI)) from h] at e
  unfold sing upd at e
  by_cases c : b = a
  · rw [if_pos c] at e; cases e; rfl
  · rw [if_neg c] at e; cases e
theorem EnvOk.lk {I F : Hp} : ∀ {N : Hp} {σ : L2.St} {Γ : List Sl}, EnvOk I F N σ Γ → LkG Γ → ∀ {b : Addr} {u : HO}, N b = some u → F b = some u ∨ mutO u = true
  | _, _, _, .nil, _, b, u, h => .inl h
  | _, _, _, .no o e, .no l, b, u, h => EnvOk.lk e l h
  | _, _, _, .im q e, .im l, b, u, h => EnvOk.lk e l h
  | _, _, _, .ow (Ma := Ma) q d e, .ow lp l, b, u, h => by
    cases hM : Ma b with
    | some w =>
      rw [ov_l hM] at h
      cases h
      exact .inr (lp _ _ _ q _ _ hM)
    | none =>
      rw [ov_r hM] at h
      exact EnvOk.lk e l h
class LkS (S : Type) [SH S] : Prop where
  lk : ∀ {s : S} {I G : Hp}, SH.h s I G → ∀ b u, G b = some u → mutO u = true
instance lkUnit : LkS Unit := ⟨fun h b u e => by rw [show _ = emp from h] at e; cases e⟩
instance lkSto : LkS (Sto K) := ⟨fun {s I G} h b u e => by
  have q := h b
  cases r : s.f b with
  | none => rw [r] at q; rw [show G b = none from q] at e; cases e
  | some o =>
    rw [r] at q
    obtain ⟨w, h1, h2⟩ := q
    rw [h1] at e
    cases e
    cases o with
    | lst xs => obtain ⟨vs, rfl, _⟩ := h2; rfl
    | dic kvs => obtain ⟨vs, rfl, _⟩ := h2; rfl⟩
theorem EnvG.lk {S : Type} [SH S] [LkS S] {s : S} {I F N : Hp} {σ : L2.St} {Γ : List Sl} (h : EnvG s I F N σ Γ) (l : LkG Γ) {b : Addr} {u : HO} (e : N b = some u) : F b = some u ∨ mutO u = true := by
  obtain ⟨G, g1, g2, e0⟩ := h
  rcases e0.lk l e with q | q
  · cases hG : G b with
    | some w =>
      rw [ov_l hG] at q
      cases q
      exact .inr (LkS.lk g1 _ _ hG)
    | none =>
      rw [ov_r hG] at q
      exact .inl q
  · exact .inr q
/-- what doesn't change stays where the lent heap is given back -/
theorem lk_back {S : Type} [SH S] [LkS S] {s : S} {I F N I2 I3 : Hp} {σ : L2.St} {Γ : List Sl} (h : EnvG s I F N σ Γ) (l : LkG Γ) (d2 : Dis F I2) (e : ov N I3 = ov F I2) : ∀ b u, I2 b = some u → mutO u = false → I3 b = some u := fun b u hu hm => by
  have hF : F b = none := d2.some_r hu
  have h1 : ov N I3 b = ov F I2 b := by rw [e]
  rw [ov_r hF, hu] at h1
  cases hN : N b with
  | none => rw [ov_r hN] at h1; exact h1
  | some w =>
    rw [ov_l hN] at h1
    cases h1
    rcases h.lk l hN with q | q
    · rw [hF] at q; cases q
    · rw [hm] at q; cases q
section
variable {S α β γ ρ : Type} [SH S] [LkS S] [Rp α] [Rp β] [Rp γ] {Γ : S → List Sl} {te : TE}
theorem em_borT [Tp γ] {Γ0 : List Sl} {m0 : Mn Unit γ} (lk : ∀ s, LkG (Γ s)) (w : ∀ s, Wk (Γ s) Γ0) (n : noOw Γ0 = true) (h : EM K te (fun _ : Unit => Γ0) m0) : EM K te Γ (mu m0) := fun s I F N σ e d Q q => by
  have ec := e
  obtain ⟨G, g1, g2, e0⟩ := ec
  obtain ⟨I1, x1, x2, x3, x4⟩ := bor e0 d (w s) n
  rw [← x3]
  refine h () I1 _ _ σ (EnvG.of x2) x1 Q (R.sat_imp (sat_mu.mp q) fun x _ q v I2 N2 a2 d2 e2 r2 => ?_)
  cases e2.unit.noOw n
  obtain ⟨I3, y1, y2, y3⟩ := x4 I2 a2 d2
  rw [← y3]
  refine q v I3 N y1 y2 (e.up y1) (Tp.tr (fun b u hu hm => ?_) r2)
  have hF : ov G F b = none := d2.some_r hu
  have h1 : ov N I3 b = ov (ov G F) I2 b := by rw [y3]
  rw [ov_r hF, hu] at h1
  cases hN : N b with
  | none => rw [ov_r hN] at h1; exact h1
  | some z =>
    rw [ov_l hN] at h1
    cases h1
    rcases e0.lk (lk s) hN with q | q
    · rw [hF] at q; cases q
    · rw [hm] at q; cases q
/-- an owned list of items without lists -/
theorem ow_back [Tp α] {I2 I3 N F H' : Hp} {xs : List α} {v : V} (k : ∀ b u, I2 b = some u → mutO u = false → I3 b = some u) (d3 : Dis N I3) (y3 : ov N I3 = ov F I2) (r : rOw (ol K) xs v I2 F H') : rOw (ol K) xs v I3 N H' := by
  obtain ⟨a, Ma, h1, h2, h3, h4, vs, h5, h6⟩ := r
  have hz : ∀ b u, Ma b = some u → N b = none ∧ I3 b = none := fun b u hb => by
    have hF : F b = none := h2.some_l hb
    have hI : I2 b = none := (dis_ov_l h3).1.some_l hb
    have h1 : ov N I3 b = ov F I2 b := by rw [y3]
    rw [ov_r hF, hI] at h1
    exact ov_none h1
  refine ⟨a, Ma, h1, fun b => ?_, ?_, ?_, vs, h5, rs_tr k h6⟩
  · cases hb : Ma b with
    | none => exact .inl rfl
    | some u => exact .inr (hz b u hb).1
  · refine dis_ov (fun b => ?_) ?_
    · cases hb : Ma b with
      | none => exact .inl rfl
      | some u => exact .inr (hz b u hb).2
    · exact d3
  · rw [h4, ← ov_assoc, ← ov_assoc, y3]
theorem owO_back [Tp α] {I2 I3 N F H' : Hp} {x : Option (List α)} {v : V} (k : ∀ b u, I2 b = some u → mutO u = false → I3 b = some u) (d3 : Dis N I3) (y3 : ov N I3 = ov F I2) (r : rOwO (ol K) x v I2 F H') : rOwO (ol K) x v I3 N H' := by
  cases x with
  | none =>
    obtain ⟨h1, h2, h3⟩ := r
    exact ⟨d3, by rw [h2, y3], h3⟩
  | some y => exact ow_back k d3 y3 r
/-- results that may be given back -/
class Bk {ρ : Type} (Ret : RetT ρ) : Prop where
  bk : ∀ {I2 I3 N F H' : Hp} {x : ρ} {v : V}, (∀ b u, I2 b = some u → mutO u = false → I3 b = some u) → Dis N I3 → ov N I3 = ov F I2 → Ret x v I2 F H' → Ret x v I3 N H'
  di : ∀ {I2 F H' : Hp} {x : ρ} {v : V}, Ret x v I2 F H' → Dis F I2
instance bkOw [Tp α] : Bk (rOw (ol K) : RetT (List α)) := ⟨ow_back, fun ⟨a, Ma, h1, h2, h3, h4⟩ => (dis_ov_l h3).2⟩
instance bkOwO [Tp α] : Bk (rOwO (ol K) : RetT (Option (List α))) := ⟨owO_back, fun {I2 F H' x v} r => by
  cases x with
  | none => exact r.1
  | some y => obtain ⟨a, Ma, h1, h2, h3, h4⟩ := r; exact (dis_ov_l h3).2⟩
/-- owned results, owned lists lent -/
theorem eo_borT {Ret : RetT ρ} [Bk Ret] {Γ0 : List Sl} {m0 : Mn Unit ρ} (lk : ∀ s, LkG (Γ s)) (w : ∀ s, Wk (Γ s) Γ0) (n : noOw Γ0 = true) (h : EO te (fun _ : Unit => Γ0) m0 Ret) : EO te Γ (mu m0) Ret := fun s I F N σ e d Q q => by
  have ec := e
  obtain ⟨G, g1, g2, e0⟩ := ec
  obtain ⟨I1, x1, x2, x3, x4⟩ := bor e0 d (w s) n
  rw [← x3]
  refine h () I1 _ _ σ (EnvG.of x2) x1 Q (R.sat_imp (sat_mu.mp q) fun x _ q v H' I2 N2 a2 e2 r2 => ?_)
  cases e2.unit.noOw n
  have d2 := Bk.di r2
  obtain ⟨I3, y1, y2, y3⟩ := x4 I2 a2 d2
  refine q v H' I3 N y1 (e.up y1) (Bk.bk (fun b u hu hm => ?_) y2 y3 r2)
  have hF : ov G F b = none := d2.some_r hu
  have h1 : ov N I3 b = ov (ov G F) I2 b := by rw [y3]
  rw [ov_r hF, hu] at h1
  cases hN : N b with
  | none => rw [ov_r hN] at h1; exact h1
  | some z =>
    rw [ov_l hN] at h1
    cases h1
    rcases e0.lk (lk s) hN with q | q
    · rw [hF] at q; cases q
    · rw [hm] at q; cases q
end
section
variable {α γ ρ : Type} [Rp α] [PyT α] [Rp γ] {Γ : Sto K → List Sl} {te : TE} {r : Ref}
/-- .. a list of the store lent -/
theorem em_borRT [Tp γ] {Γ0 : List Sl} {j : Nat} {Γ1 : List α → List Sl} {m0 : List α → Mn Unit γ} (lk : ∀ s, LkG (Γ s)) (w : ∀ s, Wk (Γ s) Γ0) (n : noOw Γ0 = true) (hj : Γ0[j]? = some (.im (pv K r))) (h1 : ∀ xs, Γ0.set j (.im (pv K xs)) = Γ1 xs) (h : ∀ xs, EM K te (fun _ : Unit => Γ1 xs) (m0 xs)) (hn : ∀ xs, noOw (Γ1 xs) = true) : EM K te Γ (mb (mldT α r) fun xs => mu (m0 xs)) := fun s I F N σ e d Q q => by
  obtain ⟨ps, xs, q1, q2, q⟩ := sat_mldT.mp (sat_mb.mp q)
  obtain ⟨I1, x1, x2, x3, x5, _, x6, x4⟩ := borG e d (w s) n
  obtain ⟨u, y1, vs, y2, y3⟩ := x6 _ _ q1
  have e1 : EnvOk I1 F F σ (Γ1 xs) := by
    rw [← h1]
    exact x2.imp1 hj fun v hv => ⟨r.a, vs, hv, by rw [y1, y2], decs_rel q2 (Py.ups x5 y3)⟩
  rw [← x3]
  refine h xs () I1 F F σ (EnvG.of e1) x1 Q (R.sat_imp (sat_mu.mp q) fun x _ q v I2 N2 a2 d2 e2 r2 => ?_)
  cases e2.unit.noOw (hn xs)
  obtain ⟨I3, z1, z2, z3⟩ := x4 I2 a2 d2
  rw [← z3]
  exact q v I3 N z1 z2 (e.up z1) (Tp.tr (lk_back e (lk s) d2 z3) r2)
theorem eo_borR {Ret : RetT ρ} [Bk Ret] {Γ0 : List Sl} {j : Nat} {Γ1 : List α → List Sl} {m0 : List α → Mn Unit ρ} (lk : ∀ s, LkG (Γ s)) (w : ∀ s, Wk (Γ s) Γ0) (n : noOw Γ0 = true) (hj : Γ0[j]? = some (.im (pv K r))) (h1 : ∀ xs, Γ0.set j (.im (pv K xs)) = Γ1 xs) (h : ∀ xs, EO te (fun _ : Unit => Γ1 xs) (m0 xs) Ret) (hn : ∀ xs, noOw (Γ1 xs) = true) : EO te Γ (mb (mldT α r) fun xs => mu (m0 xs)) Ret := fun s I F N σ e d Q q => by
  obtain ⟨ps, xs, q1, q2, q⟩ := sat_mldT.mp (sat_mb.mp q)
  obtain ⟨I1, x1, x2, x3, x5, _, x6, x4⟩ := borG e d (w s) n
  obtain ⟨u, y1, vs, y2, y3⟩ := x6 _ _ q1
  have e1 : EnvOk I1 F F σ (Γ1 xs) := by
    rw [← h1]
    exact x2.imp1 hj fun v hv => ⟨r.a, vs, hv, by rw [y1, y2], decs_rel q2 (Py.ups x5 y3)⟩
  rw [← x3]
  refine h xs () I1 F F σ (EnvG.of e1) x1 Q (R.sat_imp (sat_mu.mp q) fun x _ q v H' I2 N2 a2 e2 r2 => ?_)
  cases e2.unit.noOw (hn xs)
  have d2 := Bk.di r2
  obtain ⟨I3, z1, z2, z3⟩ := x4 I2 a2 d2
  exact q v H' I3 N z1 (e.up z1) (Bk.bk (lk_back e (lk s) d2 z3) z2 z3 r2)
end
end
end Mir

/-! Mir30: a pair as a tuple of two; a list whose items are of any kind from now on -/
namespace Mir
open PySem L2
section
variable {K : PySem.W.Frag} {S α β : Type} [SH S] [Rp α] [Rp β] {Γ1 : List Sl} {Γ : S → List Sl} {te : TE}
theorem ep_prodTu {x : α × α} (h : EP te Γ1 (pv K x)) : EP te Γ1 (pv K (Tu.mk [x.1, x.2])) := fun I F N σ e d Q q => h I F N σ e d Q fun v I1 a1 d1 ⟨a, v1, v2, h1, h2, h3, h4⟩ => q v I1 a1 d1 ⟨a, [v1, v2], h1, h2, .cons h3 (.cons h4 .nil)⟩
theorem em_prodTu {m : Mn S (α × α)} (h : EM K te Γ m) : EM K te Γ (mb m fun x => mp (Tu.mk [x.1, x.2])) := fun s I F N σ e d Q q => h s I F N σ e d Q (R.sat_imp (sat_mb.mp q) fun x s1 q v I1 N1 a1 d1 e1 ⟨a, v1, v2, h1, h2, h3, h4⟩ => q v I1 N1 a1 d1 e1 ⟨a, [v1, v2], h1, h2, .cons h3 (.cons h4 .nil)⟩)
/-- xs.append(e), e of another kind -/
theorem rp_appPy [PyT α] [PyT β] {j : Nat} {xs : List α} {m : Mn S β} {Γ' : List Py → S → List Sl} (hj : ∀ s, (Γ s)[j]? = some (.ow (ol K xs))) (h : EM K te Γ m) (hΓ : ∀ ys s, (Γ s).set j (.ow (ol K ys)) = Γ' ys s) : RP (tDrop (tBM K "list" rAppend (tVar j) (tCons te tNil))) Γ (mb m fun x => mc (lenOk xs.length) (xs.map PyT.enc ++ [PyT.enc x])) Γ' := fun s I F N σ e d D q => by
  obtain ⟨a, vs, h1, h2, h3⟩ := own_at e (hj s)
  refine ⟨_, h1, .inl ⟨rfl, vs, SqL.of (ov_l h2)⟩, h s I F N σ e d _ (R.sat_imp (sat_mb.mp q) fun x s1 q v I1 N1 a1 d1 e1 r1 => ?_)⟩
  obtain ⟨c, q⟩ := sat_mc.mp q
  have c := of_decide_eq_true c
  obtain ⟨a', us, h1', h2', h3'⟩ := own_at e1 (hj s1)
  rw [h1] at h1'
  cases h1'
  refine ⟨a, us, v, rfl, rfl, ov_l h2', sz16 (by rw [← h3'.length]; exact c), ?_⟩
  have hr : Rs K (xs.map PyT.enc) I1 us := rels_iff.mp (rels_enc h3')
  have hv : Rp.r K (PyT.enc x) I1 v := PyT.rel r1
  obtain ⟨N2, x1, x2, x3⟩ := own_upd (P' := ol K (xs.map PyT.enc ++ [PyT.enc x])) (us := us ++ [v]) (vs := us) (I' := I1) (N' := N1) e1 d1 (hj s1) h1 ol_sing ⟨_, rfl, hr.append (.cons hv .nil)⟩
  rw [x1]
  exact q I1 N2 σ a1 x2 (by rw [← hΓ]; exact x3)
end
end Mir

/-! Mir31: sorted as a list of one's own; a, b, .. = a tuple of ints of any length -/
namespace Mir
open PySem L2
section
variable {K : PySem.W.Frag} {S : Type} [SH S] {Γ : S → List Sl} {te : TE}
theorem eo_sorted {m : Mn S (List Int)} (h : EM K te Γ m) : EO (tCB (rSortedI K) (tCons te tNil)) Γ (mb m fun x => mp (srt x)) (rOw (ol K)) := fun s I F N σ e d Q q => h s I F N σ e d _ (R.sat_imp (sat_mb.mp q) fun xs s1 q v I1 N1 a1 d1 e1 r1 => by
  obtain ⟨a, vs, h1, h2, h3⟩ := r1
  refine ⟨a, xs, by rw [h1], SqL.of (by rw [← rs_int h3]; exact ex_ov d1 _ _ h2), fun ns' p hp hs hn => ?_⟩
  have e := srt_eq hp hs
  subst e
  exact q _ _ I1 N1 a1 e1 (new_list d1 hn rs_of_int))
/-- a, b, .. = a tuple -/
theorem rp_unpQ {m : Mn S (Sq Int)} {Γ' : List Int → S → List Sl} {n : Nat} (js : List Nat) (h : EM K te Γ m) (hj : ∀ s, asgOk (Γ s) js n) (hΓ : ∀ w s, setG (Γ s) js ((List.range n).map fun i => .im (pv K (w.getD i 0))) = Γ' w s) : RP (tAsg te (gTup K n (gNames js))) Γ (mb m fun w => mc (w.t && decide (w.l.length = n)) w.l) Γ' := fun s I F N σ e d D q =>
  h s I F N σ e d _ (R.sat_imp (sat_mb.mp q) fun w0 s1 q v I1 N1 a1 d1 e1 r1 => by
    obtain ⟨t, w⟩ := w0
    obtain ⟨c, q⟩ := sat_mc.mp q
    have c := Bool.and_eq_true _ _ |>.mp c
    have ct : t = true := c.1
    subst ct
    obtain ⟨a, vs, h1, h2, h3⟩ := (show Rp.r K (Tu.mk w) I1 v from r1)
    have c : w.length = n := of_decide_eq_true c.2
    have hv : vs.length = n := by rw [← h3.length]; exact c
    subst h1
    refine ⟨a, vs, rfl, sqt_ov d1 h2, hv, gNames_ok js vs σ _ _ (hv.trans (hj s1).1.symm) ?_⟩
    refine q I1 N1 _ a1 d1 ?_
    rw [← hΓ]
    have e3 : All2 (fun (p : PV) v => p.r I1 v) ((List.range n).map fun i => pv K (w.getD i 0)) vs := by
      have hw : (List.range n).map (fun i => pv K (w.getD i 0)) = w.map (pv K) := by
        apply List.ext_getElem
        · simp [c]
        · intro i g1 g2
          simp only [List.length_map] at g2
          simp [List.getD_eq_getElem?_getD, List.getElem?_eq_getElem g2]
      rw [hw]
      exact of_rs h3
    have e4 : EnvOk I1 N1 N1 (vs.map some) ((List.range n).map fun i => Sl.im (pv K (w.getD i 0))) := by
      have := EnvOk.ims (I := I1) (F := N1) e3
      rw [List.map_map] at this
      exact this
    exact EnvG.takes e1 e4 (by simp [(hj s1).1]) (hj s1).2.1 (hj s1).2.2 (fun c hc => by
      obtain ⟨i, _, rfl⟩ := List.mem_map.mp hc
      exact fun q => nomatch q))
end
end Mir

/-! Mir32: dicts of the store: displays, items, items set, in -/
namespace Mir
open PySem L2
/-- what is at a key -/
def getP (kvs : List (Key × Py)) (k : Key) : Option Py := (kvs.find? fun kv => decide (kv.1 = k)).map (·.2)
def putP (kvs : List (Key × Py)) (k : Key) (x : Py) : List (Key × Py) := if kvs.any (fun kv => decide (kv.1 = k)) = true then kvs.map (fun kv => if kv.1 = k then (kv.1, x) else kv) else kvs ++ [(k, x)]
/-- values that are keys -/
class Ky (α : Type) [Rp α] where
  key : α → Key
  val : ∀ {K : PySem.W.Frag} {x : α} {H : Hp} {v : V}, Rp.r K x H v → v = kV (key x)
instance kyInt : Ky Int := ⟨.inl, fun h => h⟩
instance kyStr : Ky Str := ⟨.inr, fun h => h⟩
section
variable {K : PySem.W.Frag} {I : Hp}
def DR (K : PySem.W.Frag) (I : Hp) : Key × Py → Key × V → Prop := fun p q => q.1 = p.1 ∧ Py.rel K I p.2 q.2
theorem dr_get {k : Key} : ∀ {kvs : List (Key × Py)} {vs : List (Key × V)} {p : Py}, All2 (DR K I) kvs vs → getP kvs k = some p → ∃ v, valV vs k = some v ∧ Py.rel K I p v
  | _, _, _, .nil, h => by cases h
  | (k1, p1) :: kvs, (k2, v2) :: vs, p, .cons c t, h => by
    obtain ⟨c1, c2⟩ := c
    have c1 : k2 = k1 := c1
    subst c1
    by_cases e : k2 = k
    · have h : some p1 = some p := by
        unfold getP at h
        rw [List.find?_cons, decide_eq_true (show (k2, p1).1 = k from e)] at h
        exact h
      cases h
      exact ⟨v2, valV_pos e, c2⟩
    · have h : getP kvs k = some p := by
        unfold getP at h ⊢
        rw [List.find?_cons, decide_eq_false (show ¬ (k2, p1).1 = k from e)] at h
        exact h
      obtain ⟨v, h1, h2⟩ := dr_get t h
      exact ⟨v, (valV_neg e).trans h1, h2⟩
theorem dr_none {k : Key} : ∀ {kvs : List (Key × Py)} {vs : List (Key × V)}, All2 (DR K I) kvs vs → (valV vs k).isSome = (getP kvs k).isSome
  | _, _, .nil => rfl
  | (k1, p1) :: kvs, (k2, v2) :: vs, .cons c t => by
    obtain ⟨c1, c2⟩ := c
    have c1 : k2 = k1 := c1
    subst c1
    by_cases e : k2 = k
    · rw [valV_pos e]
      unfold getP
      rw [List.find?_cons, decide_eq_true (show (k2, p1).1 = k from e)]
      rfl
    · rw [valV_neg e, dr_none t]
      unfold getP
      rw [List.find?_cons, decide_eq_false (show ¬ (k2, p1).1 = k from e)]
theorem dr_any {k : Key} : ∀ {kvs : List (Key × Py)} {vs : List (Key × V)}, All2 (DR K I) kvs vs → (vs.any fun kv => decide (kv.1 = k)) = kvs.any fun kv => decide (kv.1 = k)
  | _, _, .nil => rfl
  | (k1, p1) :: kvs, (k2, v2) :: vs, .cons c t => by
    have c1 : k2 = k1 := c.1
    rw [List.any_cons, List.any_cons, dr_any t]
    show (decide (k2 = k) || _) = (decide (k1 = k) || _)
    rw [c1]
theorem dr_map {k : Key} {x : Py} {v : V} (h : Py.rel K I x v) : ∀ {as : List (Key × Py)} {bs : List (Key × V)}, All2 (DR K I) as bs → All2 (DR K I) (as.map fun kv => if kv.1 = k then (kv.1, x) else kv) (bs.map fun kv => if kv.1 = k then (kv.1, v) else kv)
  | _, _, .nil => .nil
  | (k1, p1) :: as, (k2, v2) :: bs, .cons c t => by
    obtain ⟨c1, c2⟩ := c
    have c1 : k2 = k1 := c1
    subst c1
    refine .cons ?_ (dr_map h t)
    show DR K I (if k2 = k then (k2, x) else (k2, p1)) (if k2 = k then (k2, v) else (k2, v2))
    by_cases e : k2 = k
    · rw [if_pos e, if_pos e]; exact ⟨rfl, h⟩
    · rw [if_neg e, if_neg e]; exact ⟨rfl, c2⟩
theorem dr_put {k : Key} {x : Py} {v : V} {kvs : List (Key × Py)} {vs : List (Key × V)} (t : All2 (DR K I) kvs vs) (h : Py.rel K I x v) : All2 (DR K I) (putP kvs k x) (putK vs k v) := by
  unfold putP putK
  rw [dr_any t]
  by_cases c : (kvs.any fun kv => decide (kv.1 = k)) = true
  · rw [if_pos c, if_pos c]
    exact dr_map h t
  · rw [if_neg c, if_neg c]
    exact t.append (.cons ⟨rfl, h⟩ .nil)
theorem dr_len {kvs : List (Key × Py)} {vs : List (Key × V)} (t : All2 (DR K I) kvs vs) : kvs.length = vs.length := t.length
theorem mergeK_nodup : ∀ {more kvs : List (Key × V)}, ((kvs ++ more).map (·.1)).Nodup → mergeK kvs more = kvs ++ more
  | [], kvs, _ => by show kvs = kvs ++ []; rw [List.append_nil]
  | p :: more, kvs, h => by
    have hn : ¬ (kvs.any fun kv => decide (kv.1 = p.1)) = true := fun c => by
      obtain ⟨z, hz, e⟩ := List.any_eq_true.mp c
      have e := of_decide_eq_true e
      rw [List.map_append, List.map_cons] at h
      exact (List.nodup_append.mp h).2.2 z.1 (List.mem_map.mpr ⟨z, hz, rfl⟩) p.1 (List.mem_cons_self ..) e
    have e : putK kvs p.1 p.2 = kvs ++ [p] := by
      unfold putK
      rw [if_neg hn]
    show mergeK (putK kvs p.1 p.2) more = _
    rw [e, mergeK_nodup (by rw [List.append_assoc]; exact h), List.append_assoc]
    rfl
end
section
variable {K : PySem.W.Frag} {α β ζ : Type} [Rp α] [PyT α] [Rp β] [Ky β] {Γ : Sto K → List Sl} {te ta tb : TE} {r : Ref}
/-- the dict at a name -/
theorem sto_dic {s : Sto K} {I F N : Hp} {σ : L2.St} {Γs : List Sl} {xs : List (Key × Py)} (e : EnvG s I F N σ Γs) (h : s.f r.a = some (.dic xs)) : ∃ vs, N r.a = some (.dK vs) ∧ All2 (DR K I) xs vs := by
  obtain ⟨u, h1, vs, h2, h3⟩ := e.sto h
  exact ⟨vs, by rw [h1, h2], h3⟩
/-- d[k] -/
theorem em_dget {m1 : Mn (Sto K) Ref} {m2 : Mn (Sto K) β} (ha : EM K ta Γ m1) (hb : EM K tb Γ m2) : EM K (tDGet ta tb) Γ (mb m1 fun r => mb m2 fun i => mb (mldD r) fun xs => mo ((getP xs (Ky.key i)).bind (PyT.dec (α := α)))) := fun s I F N σ e d Q q =>
  ha s I F N σ e d _ (R.sat_imp (sat_mb.mp q) fun r s1 q v I1 N1 a1 d1 e1 r1 => hb s1 I1 F N1 σ e1 d1 _ (R.sat_imp (sat_mb.mp q) fun i s2 q w I2 N2 a2 d2 e2 r2 => by
    obtain ⟨xs, h1, q⟩ := sat_mldD.mp (sat_mb.mp q)
    obtain ⟨x, h2, q⟩ := sat_mo.mp q
    obtain ⟨p, h3, h4⟩ := Option.bind_eq_some_iff.mp h2
    obtain ⟨vs, g1, g2⟩ := sto_dic e2 h1
    obtain ⟨u, g3, g4⟩ := dr_get g2 h3
    refine ⟨r.a, u, r1, ?_, q u I2 N2 (a1.trans a2) d2 e2 (PyT.der h4 g4)⟩
    rw [Ky.val r2, ← g3]
    exact DGet.k (ov_l g1)))
/-- k in d, k not in d -/
theorem em_din {m1 : Mn (Sto K) β} {m2 : Mn (Sto K) Ref} (ha : EM K ta Γ m1) (hb : EM K tb Γ m2) : EM K (tDIn ta tb) Γ (mb m1 fun i => mb m2 fun r => mb (mldD r) fun xs => mp (getP xs (Ky.key i)).isSome) := fun s I F N σ e d Q q =>
  ha s I F N σ e d _ (R.sat_imp (sat_mb.mp q) fun i s1 q v I1 N1 a1 d1 e1 r1 => hb s1 I1 F N1 σ e1 d1 _ (R.sat_imp (sat_mb.mp q) fun r s2 q w I2 N2 a2 d2 e2 r2 => by
    obtain ⟨xs, h1, q⟩ := sat_mldD.mp (sat_mb.mp q)
    obtain ⟨vs, g1, g2⟩ := sto_dic e2 h1
    refine ⟨r.a, valV vs (Ky.key i), r2, ?_, ?_⟩
    · rw [Ky.val r1]
      exact DGet.k (ov_l g1)
    · rw [dr_none g2]
      exact q _ I2 N2 (a1.trans a2) d2 e2 rfl))
theorem em_dnotin {m1 : Mn (Sto K) β} {m2 : Mn (Sto K) Ref} (ha : EM K ta Γ m1) (hb : EM K tb Γ m2) : EM K (tDNotIn ta tb) Γ (mb m1 fun i => mb m2 fun r => mb (mldD r) fun xs => mp (!(getP xs (Ky.key i)).isSome)) := fun s I F N σ e d Q q =>
  ha s I F N σ e d _ (R.sat_imp (sat_mb.mp q) fun i s1 q v I1 N1 a1 d1 e1 r1 => hb s1 I1 F N1 σ e1 d1 _ (R.sat_imp (sat_mb.mp q) fun r s2 q w I2 N2 a2 d2 e2 r2 => by
    obtain ⟨xs, h1, q⟩ := sat_mldD.mp (sat_mb.mp q)
    obtain ⟨vs, g1, g2⟩ := sto_dic e2 h1
    refine ⟨r.a, valV vs (Ky.key i), r2, ?_, ?_⟩
    · rw [Ky.val r1]
      exact DGet.k (ov_l g1)
    · rw [dr_none g2]
      exact q _ I2 N2 (a1.trans a2) d2 e2 rfl))
def dicOk (n : Nat) : Bool := decide (n < 1000)
theorem dicOk_sz {n m : Nat} (h : dicOk n = true) (e : n = m) : m < sizeLine := by
  have h := of_decide_eq_true h
  rw [sizeLine_eq]
  omega
/-- d[k] = e -/
theorem rp_dput {m : Mn (Sto K) α} {m1 : Mn (Sto K) Ref} {m2 : Mn (Sto K) β} (h : EM K te Γ m) (ha : EM K ta Γ m1) (hb : EM K tb Γ m2) (hΓ : ∀ s s', Γ s = Γ s') : RP (sDPut ta tb te) Γ (mb m fun x => mb m1 fun r => mb m2 fun i => mb (mldD r) fun xs => mb (mc (dicOk xs.length) ()) fun _ => mput r (.dic (putP xs (Ky.key i) (PyT.enc x)))) fun _ => Γ := fun s I F N σ e d D q =>
  h s I F N σ e d _ (R.sat_imp (sat_mb.mp q) fun x s1 q v I1 N1 a1 d1 e1 r1 => ha s1 I1 F N1 σ e1 d1 _ (R.sat_imp (sat_mb.mp q) fun r s2 q w I2 N2 a2 d2 e2 r2 => hb s2 I2 F N2 σ e2 d2 _ (R.sat_imp (sat_mb.mp q) fun i s3 q y I3 N3 a3 d3 e3 r3 => by
    obtain ⟨xs, h1, q⟩ := sat_mldD.mp (sat_mb.mp q)
    obtain ⟨c, q⟩ := sat_mc.mp (sat_mb.mp q)
    obtain ⟨o0, _, q⟩ := sat_mput.mp q
    obtain ⟨vs, g1, g2⟩ := sto_dic e3 h1
    refine ⟨r.a, upd (ov N3 I3) r.a (.dK (putK vs (Ky.key i) v)), r2, ?_, ?_⟩
    · rw [Ky.val r3]
      exact DPut.k (ov_l g1) (dicOk_sz c (dr_len g2))
    · obtain ⟨N4, x1, x2, x3⟩ := e3.sput d3 h1 (o' := .dic (putP xs (Ky.key i) (PyT.enc x))) (u' := .dK (putK vs (Ky.key i) v)) ⟨_, rfl, dr_put g2 (Py.up (a2.trans a3) (PyT.rel r1))⟩
      rw [x1]
      exact q I3 N4 σ ((a1.trans a2).trans a3) x2 (ecast (hΓ s3 _) x3))))
/-! ### displays -/
def PMk (ks : List Key) (trs : List (TE × TE)) (Γ : Sto K → List Sl) (m : Mn (Sto K) (List (Key × Py))) : Prop := ∀ (s : Sto K) (I F N : Hp) (σ : L2.St), EnvG s I F N σ (Γ s) → Dis N I → ∀ Q : List (V × V) → Hp → Prop,
  (m s).sat (fun zs s' => ∀ vs I' N', Ex I I' → Dis N' I' → EnvG s' I' F N' σ (Γ s') → All2 (DR K I') zs vs → vs.map (·.1) = ks → Q (vs.map fun kv => (kV kv.1, kv.2)) (ov N' I')) → tPairs trs σ (ov N I) Q
theorem pm_nil : PMk [] [] Γ (mp []) := fun s I F N σ e d Q q => q [] I N (Ex.refl I) d e .nil rfl
theorem pm_cons {k : Key} {ks : List Key} {trs : List (TE × TE)} {m : Mn (Sto K) α} {m2 : Mn (Sto K) (List (Key × Py))} (h : EM K te Γ m) (h2 : PMk ks trs Γ m2) : PMk (k :: ks) ((tC (kV k), te) :: trs) Γ (mb m fun x => mb m2 fun zs => mp ((k, PyT.enc x) :: zs)) := fun s I F N σ e d Q q =>
  h s I F N σ e d _ (R.sat_imp (sat_mb.mp q) fun x s1 q v I1 N1 a1 d1 e1 r1 => h2 s1 I1 F N1 σ e1 d1 _ (R.sat_imp (sat_mb.mp q) fun zs s2 q vs I2 N2 a2 d2 e2 r2 ek => by
    have := q ((k, v) :: vs) I2 N2 (a1.trans a2) d2 e2 (.cons ⟨rfl, Py.up a2 (PyT.rel r1)⟩ r2) (by rw [List.map_cons, ek])
    exact this))
theorem em_disp {ks : List Key} {trs : List (TE × TE)} {m : Mn (Sto K) (List (Key × Py))} (h : PMk ks trs Γ m) (hn : ks.Nodup) (hl : ks.length ≤ 15) (hΓ : ∀ s s', Γ s = Γ s') : EM K (tDisp trs) Γ (mb (mnew (.dic [])) fun r => mb m fun zs => mb (mldD r) fun z => mb (mc z.isEmpty ()) fun _ => mb (mput r (.dic zs)) fun _ => mp r) := fun s I F N σ e d Q q p hp => by
  obtain ⟨g1, g2, g3, g4⟩ := e.snew d hp (o := .dic []) (u := .dK []) ⟨[], rfl, .nil⟩
  rw [g2]
  refine h (s.put p (.dic [])) I F _ σ (ecast (hΓ _ _) g4) g3 _ (R.sat_imp (sat_mb.mp (sat_mnew.mp (sat_mb.mp q) p g1)) fun zs s2 q vs I2 N2 a2 d2 e2 r2 ek => ?_)
  obtain ⟨xs, h1, q5⟩ := sat_mldD.mp (sat_mb.mp q)
  obtain ⟨c, q6⟩ := sat_mc.mp (sat_mb.mp q5)
  obtain ⟨o0, _, q7⟩ := sat_mput.mp (sat_mb.mp q6)
  have ex : xs = [] := List.isEmpty_iff.mp c
  subst ex
  obtain ⟨ws, w1, w2⟩ := sto_dic e2 h1
  cases w2
  have hlen : vs.length = ks.length := by rw [← ek, List.length_map]
  have em : mergeK [] vs = vs := by
    have := mergeK_nodup (kvs := []) (more := vs) (by rw [List.nil_append, ek]; exact hn)
    rwa [List.nil_append] at this
  refine ⟨ov_l w1, vs, rfl, by omega, ?_⟩
  rw [em]
  obtain ⟨N4, x1, x2, x3⟩ := e2.sput d2 h1 (o' := .dic zs) (u' := .dK vs) ⟨_, rfl, r2⟩
  rw [x1]
  exact (sat_mp.mp q7) (.ref p) I2 N4 a2 x2 (ecast (hΓ s2 _) x3) rfl
end
end Mir

/-! RCa: combinations: what the table says of the type -/
namespace RC
open PySem
theorem owner_comb : Manifest.owners.lookup (String.ofList ['s', 'n', 'o', 'i', 't', 'a', 'n', 'i', 'b', 'm', 'o', 'c', '.', 's', 'l', 'o', 'o', 't', 'r', 'e', 't', 'i'].reverse) = some Manifest.sig_itertools_combinations := by kernel_rfl
theorem slot_next : Slot "itertools.combinations" "__next__" "itertools.combinations.__next__" :=
  .of (owner := "itertools.combinations") (n := "__next__") (by rw [typeLookup_type, builtinLookup_eq_fast]; kernel_rfl) (by decide +kernel) (by decide +kernel) (by decide +kernel)
    (by first | exact .inl (by decide +kernel) | exact .inr (by decide +kernel)) (by rw [isSubtype_type]; kernel_rfl)
theorem slot_iter : Slot "itertools.combinations" "__iter__" "itertools.combinations.__iter__" :=
  .of (owner := "itertools.combinations") (n := "__iter__") (by rw [typeLookup_type, builtinLookup_eq_fast]; kernel_rfl) (by decide +kernel) (by decide +kernel) (by decide +kernel)
    (by first | exact .inl (by decide +kernel) | exact .inr (by decide +kernel)) (by rw [isSubtype_type]; kernel_rfl)
theorem slot_init : Slot "itertools.combinations" "__init__" "object.__init__" :=
  .of (owner := "object") (n := "__init__") (by rw [typeLookup_type, builtinLookup_eq_fast]; kernel_rfl) (by decide +kernel) (by decide +kernel) (by decide +kernel)
    (by first | exact .inl (by decide +kernel) | exact .inr (by decide +kernel)) (by rw [isSubtype_type]; kernel_rfl)
theorem entry_next : entryFor table "itertools.combinations.__next__" = some Builtin.«itertools.combinations.__next__» := entryFor_of_tree (by kernel_rfl)
theorem entry_new : entryFor table "itertools.combinations.__new__" = some Builtin.«itertools.combinations.__new__» := entryFor_of_tree (by kernel_rfl)
theorem entry_iter : entryFor table "itertools.combinations.__iter__" = some Builtin.«dict_keyiterator.__iter__» :=
  entryFor_alias (id' := "dict_keyiterator.__iter__") (by kernel_rfl) (by first | rfl | decide +kernel | (unfold String.splitOn; simp +decide [String.splitOnAux])) (by decide +kernel) (by kernel_rfl)
theorem args_next (a : Value) : argsOk "itertools.combinations.__next__" ⟨[a], []⟩ := by
  unfold argsOk; rw [signature?_of (id := "itertools.combinations.__next__") (n := ['_', '_', 't', 'x', 'e', 'n', '_', '_']) (o := ['s', 'n', 'o', 'i', 't', 'a', 'n', 'i', 'b', 'm', 'o', 'c', '.', 's', 'l', 'o', 'o', 't', 'r', 'e', 't', 'i']) (by kernel_rfl) owner_comb]; kernel_rfl
theorem args_iter (a : Value) : argsOk "itertools.combinations.__iter__" ⟨[a], []⟩ := by
  unfold argsOk; rw [signature?_of (id := "itertools.combinations.__iter__") (n := ['_', '_', 'r', 'e', 't', 'i', '_', '_']) (o := ['s', 'n', 'o', 'i', 't', 'a', 'n', 'i', 'b', 'm', 'o', 'c', '.', 's', 'l', 'o', 'o', 't', 'r', 'e', 't', 'i']) (by kernel_rfl) owner_comb]; kernel_rfl
theorem mro_comb : mroOf (.type "itertools.combinations") = pure [.type "itertools.combinations", .type "object"] := by rw [mroOf_type]; kernel_rfl
theorem lookup_new : typeLookup (.type "itertools.combinations") "__new__" = pure (some (.builtin "itertools.combinations.__new__")) := by rw [typeLookup_type, builtinLookup_eq_fast]; kernel_rfl
theorem called : TypeCalled "itertools.combinations" "itertools.combinations.__new__" "object.__init__" :=
  ⟨by decide +kernel, by decide +kernel, ⟨_, _, mro_comb⟩, madeBy_type mro_comb lookup_new (by decide +kernel), by decide +kernel, by rw [isSubtype_type]; kernel_rfl, slot_init⟩
theorem typeCall (a b : Value) : checkTypeCall "itertools.combinations" ⟨[a, b], []⟩ = pure () := by kernel_rfl
theorem newCall (a b : Value) : checkBuiltinCall "itertools.combinations.__new__" ⟨[.type "itertools.combinations", a, b], []⟩ = pure () := by kernel_rfl
theorem sub_comb : isSubtype (.type "itertools.combinations") (.type "itertools.combinations") = pure true := by rw [isSubtype_type]; kernel_rfl
end RC

/-! RCb0: a range collected; the heap has grown -/
namespace RC
open PySem
open PySem.Sem (wp)
theorem collect_rng {prog : Program} {w : World} {A : Around} {E : Value → Shared → Prop} {s : Shared} {Rg : Addr} {lo hi st : Int} {t1 t2 t3 : Tok} {n : Nat} {Q : List Value → Shared → Prop} (hA : A.handled = none) (hR : IsRange s.heap Rg lo hi st t1 t2 t3)
    (c1 : Builtin.Range.small lo hi st = true) (c2 : Builtin.Range.rangeSize lo hi st = n) (c3 : n ≤ 2 ^ 24)
    (q : ∀ (hp : Heap) (tk : Nat) (its : Array Value), (∀ b o, s.heap.get? b = some o → hp.get? b = some o) → s.heap.objs.size ≤ hp.objs.size → ItemsOf (fun i v => ∃ t, v = .int (lo + i * st) t) its n → Q its.toList { s with heap := hp, toks := tk }) :
    wpAny (model prog w) A (collect (.ref Rg)) Q E s := by
  unfold collect
  refine wpAny_bind (wpAny_runValue (codeAny_builtin F.entry_proto_collect ?_)); rw [Around.under_plainId F.plain_proto_collect _]
  show wpAny _ A.in1 (newList [] >>= fun z => again (.builtin "list.__iadd__" ⟨[z, .ref Rg], []⟩)) _ _ s
  refine wpAny_bind (wpAny_newObj_type (wpAny_pure ⟨plainId_quiet F.plain_list_iadd _, codeAny_builtin F.entry_list_iadd ?_⟩)); rw [Around.under_plainId F.plain_list_iadd _]
  show wpAny _ A.in1 (Builtin.List.listExtendWith (.ref s.heap.objs.size) (.ref Rg) (.ref s.heap.objs.size)) _ _ _
  have first : (s.heap.push { cls := .type "list", data := .seq ([] : List Value).toArray }).get? s.heap.objs.size = some { cls := .type "list", data := .seq #[] 0 } := Heap.get?_push_size _ rfl
  refine wpAny_mono (wpAny_extend_range (A := A) (s := { s with heap := s.heap.push { cls := .type "list", data := .seq ([] : List Value).toArray } })
    (R := fun r2 s2 => r2 = .ok (.ret (.ref s.heap.objs.size)) ∧ ∃ (hp : Heap) (tk : Nat) (its : Array Value) (k : Nat), s2 = { s with heap := hp, toks := tk } ∧
      (∀ b o, s.heap.get? b = some o → hp.get? b = some o) ∧ hp.get? s.heap.objs.size = some { cls := .type "list", dict := none, data := .seq its k, slots := #[] } ∧ ItemsOf (fun i v => ∃ t, v = .int (lo + i * st) t) its n)
    hA (Heap.get?_push_of_some _ hR) c1 c2 c3 _ _ 0 first
    (fun hp tk its k keep e it => ⟨rfl, hp, tk, its, k, rfl, fun b o z => keep b o (Nat.ne_of_lt (Heap.lt_size z)) (Heap.get?_push_of_some _ z), e, it⟩)) (fun fin s2 h => ?_) (fun e s2 h => absurd h.1 (by simp))
  have fin_ : ∀ (hp : Heap) (tk : Nat) (its : Array Value) (k : Nat), (∀ b o, s.heap.get? b = some o → hp.get? b = some o) → hp.get? s.heap.objs.size = some { cls := .type "list", dict := none, data := .seq its k, slots := #[] } →
      ItemsOf (fun i v => ∃ t, v = .int (lo + i * st) t) its n → wpAny (model prog w) A (do
        let .ref x := Value.ref s.heap.objs.size | unsupported "internal:collect"
        let .seq ys _ := (← load x).data | unsupported "internal:collect"
        return ys.toList) Q E { s with heap := hp, toks := tk } := fun hp tk its k keep e it => by
    show wpAny _ A (load s.heap.objs.size >>= _) _ _ _
    exact wpAny_bind (wpAny_load e (wpAny_pure (q hp tk its keep (Nat.le_of_lt (Heap.lt_size e)) it)))
  cases fin with
  | done f =>
    obtain ⟨e0, hp, tk, its, k, rfl, keep, e, it⟩ := h
    cases e0
    exact fin_ hp tk its k keep e it
  | again c =>
    refine ⟨h.1, codeAny_mono h.2 fun r2 s3 ⟨e0, hp, tk, its, k, e1, keep, e, it⟩ => ?_⟩
    subst e0 e1
    exact fin_ hp tk its k keep e it
end RC

/-! RCb: a new iterator of combinations over a range -/
namespace RC
open PySem
open PySem.Sem (wp)
/-- an iterator of combinations: its pool, its state, what it handed out last, its indices -/
abbrev IsComb (h : Heap) (z TP : Addr) (st : Nat) (old : Value) (ix : List Nat) : Prop :=
  h.get? z = some { cls := .type "itertools.combinations", data := .fields ([.ref TP, rawInt st, old] ++ ix.map fun (i : Nat) => rawInt i).toArray }
theorem meets_new (Rg : Addr) (a b c : Int) (t u v : Tok) (n r : Nat) (tr : Tok) :
    Meets (Builtin.«itertools.combinations.__new__» ⟨[.type "itertools.combinations", .ref Rg, .int r tr], []⟩) (fun A K s => A.handled = none ∧ IsRange s.heap Rg a b c t u v ∧ Builtin.Range.small a b c = true ∧ Builtin.Range.rangeSize a b c = n ∧ n ≤ 1000 ∧ r ≤ 1000 ∧
      ∀ (h' : Heap) (tk : Nat) (acc : Array Value), (∀ b o, s.heap.get? b = some o → h'.get? b = some o) → s.heap.objs.size ≤ h'.objs.size → ItemsOf (fun i v => ∃ t, v = .int (a + i * c) t) acc n → K (.ok (.ret (.ref (h'.push { cls := .type "tuple", data := .seq acc.toList.toArray }).objs.size))) { s with heap := (h'.push { cls := .type "tuple", data := .seq acc.toList.toArray }).push { cls := .type "itertools.combinations", data := .fields ([.ref h'.objs.size, rawInt (if r > acc.toList.length then 2 else 0), .none] ++ (List.range r).map fun (i : Nat) => rawInt i).toArray }, toks := tk }) :=
  .of_wp fun prog w A K s h => by
    obtain ⟨hp, g, d, tk, os⟩ := s; obtain ⟨hh, hr, h1, h2, h3, h4, h⟩ := h
    have hsub := sub_comb
    have hsub2 : isSubtype (.type "itertools.combinations") (.type ("itertools." ++ "combinations")) = pure true := sub_comb
    have n1 : ¬ ((decide ((r : Int) < -2 ^ 63) || decide ((r : Int) ≥ 2 ^ 63)) = true) := by
      rw [Bool.or_eq_true, decide_eq_true_eq, decide_eq_true_eq]; omega
    have n2 : ¬ ((r : Int) < 0) := by omega
    have n3 : ¬ (Builtin.Itertools.itTooMany (r : Int) = true) := by
      unfold Builtin.Itertools.itTooMany; rw [decide_eq_true_eq]; omega
    wp_walk
    rw [if_neg n1]
    refine wpAny_pure ?_
    refine wpAny_bind (collect_rng hh hr h1 h2 (by omega) fun h' tk' acc hk hgr hi => ?_)
    show wpAny _ _ (if _ then _ else _) _ _ _
    rw [if_neg n2]
    show wpAny _ _ (if _ then _ else _) _ _ _
    rw [if_neg n3]
    have ha : acc.size = n := hi.1
    have e1 : typeHasDict (.type "itertools.combinations") = false := by decide +kernel
    refine wpAny_bind (wpAny_newTuple ?_ (by rw [Array.length_toList, ha]; exact Nat.le_trans h3 (by decide)))
    refine wpAny_pure ?_
    simp only [Builtin.Itertools.itNewRecord, e1, Bool.not_false, if_true, ↓reduceIte]
    refine wpAny_bind (wpAny_newObj_type ?_ ?hd)
    · exact wpAny_pure ⟨_, rfl, h h' tk' acc hk hgr hi⟩
    case hd =>
      have : 1003 ≤ sizeLine + 2 := by decide
      simp [sizeOk]; omega
end RC

/-! RCc: the next one of combinations -/
namespace RC
open PySem
open PySem.Sem (wp)
/-- the indices behind ix -/
def nxt (n : Nat) (ix : List Nat) : Option (List Nat) :=
  match (List.range ix.length).reverse.find? fun k => ix.getD k 0 != k + n - ix.length with
  | none => none
  | some k => some (ix.take k ++ (List.range (ix.length - k)).map (ix.getD k 0 + 1 + ·))
section
variable {prog : Program} {w : World} {A : Around} {E : Value → Shared → Prop} {s : Shared}
theorem numbers_of (h0 : Value) (h1 : Value) (h2 : Value) (ix : List Nat) : ((([h0, h1, h2] ++ ix.map fun (i : Nat) => rawInt i).toArray).toList.drop 3).map (fun | .int n _ => n.toNat | _ => 0) = ix := by
  rw [List.toList_toArray]
  show ((ix.map fun (i : Nat) => rawInt i)).map _ = ix
  rw [List.map_map]
  conv => rhs; rw [← List.map_id ix]
  refine List.map_congr_left fun i _ => ?_
  show (i : Int).toNat = i
  exact Int.toNat_natCast i
theorem set_st {z TP : Addr} {st st2 : Nat} {old : Value} {ix : List Nat} {Q : Unit → Shared → Prop} (hz : IsComb s.heap z TP st old ix)
    (hQ : ∀ h', IsComb h' z TP st2 old ix → Heap.SameBut z s.heap h' → Q () { s with heap := h' }) : wpAny (model prog w) A (setField (.ref z) 1 (rawInt st2)) Q E s := by
  refine wpAny_setField_rec hz (by simp) fun h' hz' hs' => hQ h' ?_ hs'
  show h'.get? z = _
  rw [hz']; simp
theorem set_old {z TP : Addr} {st : Nat} {old new : Value} {ix : List Nat} {Q : Unit → Shared → Prop} (hz : IsComb s.heap z TP st old ix)
    (hQ : ∀ h', IsComb h' z TP st new ix → Heap.SameBut z s.heap h' → Q () { s with heap := h' }) : wpAny (model prog w) A (setField (.ref z) 2 new) Q E s := by
  refine wpAny_setField_rec hz (by simp) fun h' hz' hs' => hQ h' ?_ hs'
  show h'.get? z = _
  rw [hz']; simp
theorem set_ix {z TP : Addr} {st : Nat} {old : Value} {ix ix2 : List Nat} {Q : Unit → Shared → Prop} (hz : IsComb s.heap z TP st old ix) (hl : ix2.length ≤ 1000)
    (hQ : ∀ h', IsComb h' z TP st old ix2 → Heap.SameBut z s.heap h' → Q () { s with heap := h' }) : wpAny (model prog w) A (Builtin.Itertools.itSetNumbersFrom (.ref z) 3 ix2) Q E s := by
  show wpAny _ _ (updateFields z _) _ _ _
  refine wpAny_updateFields hz rfl (hQ _ ?_ (Heap.SameBut.update ..)) ?_
  · show Heap.get? _ z = _
    rw [Heap.get?_update_self _ hz rfl]
    simp [Obj.mapFields]
  · have : 1003 ≤ sizeLine := by decide
    simp; omega
theorem nums {z TP : Addr} {st : Nat} {old : Value} {ix : List Nat} {Q : List Nat → Shared → Prop} (hz : IsComb s.heap z TP st old ix) (h : Q ix s) :
    wpAny (model prog w) A (Builtin.Itertools.itNumbersFrom (.ref z) 3) Q E s := by
  show wpAny _ _ (load z >>= _) _ _ _
  refine wpAny_bind (wpAny_load hz ?_)
  refine wpAny_pure ?_
  exact Eq.mpr (congrArg (fun l => Q l s) (numbers_of (.ref TP) (rawInt st) old ix)) h
theorem intF {z TP : Addr} {st : Nat} {old : Value} {ix : List Nat} {Q : Int → Shared → Prop} (hz : IsComb s.heap z TP st old ix) (h : Q (st : Int) s) :
    wpAny (model prog w) A (Builtin.Itertools.itIntField (.ref z) 1) Q E s := by
  show wpAny _ _ (field (.ref z) 1 >>= _) _ _ _
  exact wpAny_bind (wpAny_field hz rfl (x := rawInt st) rfl (wpAny_pure h))
/-- what is handed out: a new tuple, kept as the last one -/
theorem hand {z TP : Addr} {st : Nat} {old : Value} {ix : List Nat} {items : List Value} {Q : Value → Shared → Prop} (hz : IsComb s.heap z TP st old ix) (hp : s.heap.IsTuple TP items.toArray) (hl : ix.length ≤ 1000)
    (hQ : ∀ h', IsComb h' z TP st (.ref s.heap.objs.size) ix → h'.get? s.heap.objs.size = some { cls := .type "tuple", data := .seq (ix.map fun i => items.toArray.getD i .none).toArray } →
      (∀ c o, c ≠ z → s.heap.get? c = some o → h'.get? c = some o) → Q (.ref s.heap.objs.size) { s with heap := h' }) (m : Sem Fin)
    (hm : m = (do
      let result ← (do let its ← Builtin.Itertools.itPoolItems (.ref TP); newTuple (ix.map fun i => its.getD i .none))
      let before ← field (.ref z) 2
      setField (.ref z) 2 result
      letGo [before] [result]
      ret result)) : wpAny (model prog w) A m (fun fin s' => ∃ v, fin = .done (.ret v) ∧ Q v s') E s := by
  obtain ⟨o, ho, hc, nn, hd⟩ := hp
  subst hm
  have big : 1000 ≤ sizeLine := by decide
  have hzl : z < s.heap.objs.size := Heap.lt_size hz
  refine wpAny_bind (wpAny_bind (wpAny_bind (wpAny_seqItems ho hd (wpAny_pure ?_))))
  refine wpAny_newTuple ?_ (by rw [List.length_map]; omega)
  have hz1 : IsComb (s.heap.push { cls := .type "tuple", data := .seq (ix.map fun i => items.toArray.getD i .none).toArray }) z TP st old ix := Heap.get?_push_of_some _ hz
  refine wpAny_bind (wpAny_field hz1 rfl (x := old) rfl ?_)
  refine wpAny_bind (set_old hz1 fun h' hz2 hs2 => ?_)
  refine wpAny_bind (wpAny_letGo ?_)
  refine wpAny_pure ⟨_, rfl, hQ h' hz2 ?_ fun c o hcz e => hs2.2 c hcz ▸ ?_⟩
  · exact (hs2.2 _ (Nat.ne_of_gt hzl)).trans (Heap.get?_push_size _ rfl)
  · exact Heap.get?_push_of_some _ e
end
end RC

/-! RCd: __next__ of combinations -/
namespace RC
open PySem
open PySem.Sem (wp)
section
variable {prog : Program} {w : World} {A : Around} {E : Value → Shared → Prop} {s : Shared}
theorem next_first {z TP : Addr} {old : Value} {ix : List Nat} {items : List Value} {Q : Value → Shared → Prop} (hz : IsComb s.heap z TP 0 old ix) (hp : s.heap.IsTuple TP items.toArray) (hpz : TP ≠ z) (hl : ix.length ≤ 1000)
    (hQ : ∀ h', IsComb h' z TP 1 (.ref s.heap.objs.size) ix → h'.get? s.heap.objs.size = some { cls := .type "tuple", data := .seq (ix.map fun i => items.toArray.getD i .none).toArray } →
      (∀ c o, c ≠ z → s.heap.get? c = some o → h'.get? c = some o) → Q (.ref s.heap.objs.size) { s with heap := h' }) :
    wpAny (model prog w) A (Builtin.«itertools.combinations.__next__» ⟨[.ref z], []⟩) (fun fin s' => ∃ v, fin = .done (.ret v) ∧ Q v s') E s := by
  show wpAny _ _ (field (.ref z) 0 >>= _) _ _ _
  refine wpAny_bind (wpAny_field hz rfl (x := .ref TP) rfl ?_)
  show wpAny _ _ (Builtin.Itertools.itNumbersFrom (.ref z) 3 >>= _) _ _ _
  refine wpAny_bind (nums hz ?_)
  show wpAny _ _ (Builtin.Itertools.itIntField (.ref z) 1 >>= _) _ _ _
  refine wpAny_bind (intF hz ?_)
  show wpAny _ _ (setField (.ref z) 1 (rawInt (1 : Nat)) >>= _) _ _ _
  refine wpAny_bind (set_st (st2 := 1) hz fun h1 hz1 hs1 => ?_)
  have hp1 : h1.IsTuple TP items.toArray := by obtain ⟨o, ho, r⟩ := hp; exact ⟨o, (hs1.2 _ hpz).trans ho, r⟩
  refine hand hz1 hp1 hl (fun h' a b c => ?_) _ rfl
  rw [show (Shared.heap { s with heap := h1 }).objs.size = s.heap.objs.size from hs1.1] at a b ⊢
  exact hQ h' a b fun d o hd e => c d o hd ((hs1.2 _ hd).trans e)
theorem next_more {z TP : Addr} {old : Value} {ix ix2 : List Nat} {items : List Value} {Q : Value → Shared → Prop} (hz : IsComb s.heap z TP 1 old ix) (hp : s.heap.IsTuple TP items.toArray) (hpz : TP ≠ z) (hl : ix2.length ≤ 1000)
    (hn : nxt items.length ix = some ix2)
    (hQ : ∀ h', IsComb h' z TP 1 (.ref s.heap.objs.size) ix2 → h'.get? s.heap.objs.size = some { cls := .type "tuple", data := .seq (ix2.map fun i => items.toArray.getD i .none).toArray } →
      (∀ c o, c ≠ z → s.heap.get? c = some o → h'.get? c = some o) → Q (.ref s.heap.objs.size) { s with heap := h' }) :
    wpAny (model prog w) A (Builtin.«itertools.combinations.__next__» ⟨[.ref z], []⟩) (fun fin s' => ∃ v, fin = .done (.ret v) ∧ Q v s') E s := by
  show wpAny _ _ (field (.ref z) 0 >>= _) _ _ _
  refine wpAny_bind (wpAny_field hz rfl (x := .ref TP) rfl ?_)
  show wpAny _ _ (Builtin.Itertools.itNumbersFrom (.ref z) 3 >>= _) _ _ _
  refine wpAny_bind (nums hz ?_)
  show wpAny _ _ (Builtin.Itertools.itIntField (.ref z) 1 >>= _) _ _ _
  refine wpAny_bind (intF hz ?_)
  show wpAny _ _ (Builtin.Itertools.itPoolItems (.ref TP) >>= _) _ _ _
  obtain ⟨o, ho, hc, nn, hd⟩ := id hp
  refine wpAny_bind (wpAny_bind (wpAny_seqItems ho hd (wpAny_pure ?_)))
  have hn2 : nxt items.toArray.size ix = some ix2 := by rw [List.size_toArray]; exact hn
  split
  · next next he =>
    have e2 : some next = some ix2 := he.symm.trans hn2
    cases e2
    refine wpAny_bind (set_ix hz hl fun h1 hz1 hs1 => ?_)
    have hp1 : h1.IsTuple TP items.toArray := ⟨o, (hs1.2 _ hpz).trans ho, hc, nn, hd⟩
    refine hand hz1 hp1 hl (fun h' a b c => ?_) _ rfl
    rw [show (Shared.heap { s with heap := h1 }).objs.size = s.heap.objs.size from hs1.1] at a b ⊢
    exact hQ h' a b fun d o hd e => c d o hd ((hs1.2 _ hd).trans e)
  · next he =>
    have e2 : none = some ix2 := he.symm.trans hn2
    cases e2
theorem stop_ {m : Sem Fin} {Q : Fin → Shared → Prop} {z : Addr} {h0 : Heap} (hm : m = Builtin.Itertools.itStop) (hh : A.handled = none)
    (hk : ∀ c o, c ≠ z → h0.get? c = some o → s.heap.get? c = some o)
    (hE : ∀ h' e, (∀ c o, c ≠ z → h0.get? c = some o → h'.get? c = some o) → (∃ o, h'.get? e = some o ∧ o.cls = .type "StopIteration") → E (.ref e) { s with heap := h' }) :
    wpAny (model prog w) A m Q E s := by
  subst hm
  show wpAny _ _ (newExc (.type "StopIteration") [] >>= _) _ _ _
  refine wpAny_bind ?_
  simp only [newExc, newTuple]
  refine wpAny_bind (wpAny_newObj_type ?_ (by size_fits))
  refine wpAny_bind (m := firstArgMember _ _) (wpAny_of_eq (a := Value.none) (by first | rfl | (simp only [firstArgMember]; rfl)) ?_)
  refine wpAny_newObj_type ?_ (by size_fits)
  simp only [raiseNew]
  refine wpAny_bind (wpAny_handled ?_)
  first | rw [show A.in1.handled = none from hh] | rw [hh]
  refine wpAny_bind (wpAny_pure (wpAny_throw ?_))
  exact hE _ _ (fun c o hc e => Heap.get?_push_of_some _ (Heap.get?_push_of_some _ (hk c o hc e))) ⟨_, Heap.get?_push_size _ rfl, rfl⟩
theorem next_end {z TP : Addr} {old : Value} {ix : List Nat} {items : List Value} {st : Nat} {Q : Fin → Shared → Prop} (hz : IsComb s.heap z TP st old ix) (hp : s.heap.IsTuple TP items.toArray) (hh : A.handled = none)
    (hn : st = 2 ∨ (st = 1 ∧ nxt items.length ix = none))
    (hE : ∀ h' e, (∀ c o, c ≠ z → s.heap.get? c = some o → h'.get? c = some o) → (∃ o, h'.get? e = some o ∧ o.cls = .type "StopIteration") → E (.ref e) { s with heap := h' }) :
    wpAny (model prog w) A (Builtin.«itertools.combinations.__next__» ⟨[.ref z], []⟩) Q E s := by
  show wpAny _ _ (field (.ref z) 0 >>= _) _ _ _
  refine wpAny_bind (wpAny_field hz rfl (x := .ref TP) rfl ?_)
  show wpAny _ _ (Builtin.Itertools.itNumbersFrom (.ref z) 3 >>= _) _ _ _
  refine wpAny_bind (nums hz ?_)
  show wpAny _ _ (Builtin.Itertools.itIntField (.ref z) 1 >>= _) _ _ _
  refine wpAny_bind (intF hz ?_)
  rcases hn with rfl | ⟨rfl, hn⟩
  · show wpAny _ _ (rule _ >>= _) _ _ _
    exact wpAny_bind (wpAny_rule (stop_ (z := z) rfl hh (fun c o _ e => e) hE))
  · show wpAny _ _ (Builtin.Itertools.itPoolItems (.ref TP) >>= _) _ _ _
    obtain ⟨o, ho, hc, nn, hd⟩ := id hp
    refine wpAny_bind (wpAny_bind (wpAny_seqItems ho hd (wpAny_pure ?_)))
    have hn2 : nxt items.toArray.size ix = none := by rw [List.size_toArray]; exact hn
    split
    · next next he =>
      have e2 : some next = none := he.symm.trans hn2
      cases e2
    · next he =>
      show wpAny _ _ (setField (.ref z) 1 (rawInt (2 : Nat)) >>= _) _ _ _
      refine wpAny_bind (set_st (st2 := 2) hz fun h1 hz1 hs1 => ?_)
      exact stop_ (z := z) (h0 := s.heap) rfl hh (fun c o hc e => (hs1.2 _ hc).trans e) hE
end
end RC

/-! RCe: calling combinations; a walk over it -/
namespace RC
open PySem PySem.Spec PyProof.Rows L2
open PySem.Sem (wp)
/-- the i-th list of indices -/
def cat (n r : Nat) : Nat → Option (List Nat)
  | 0 => if r ≤ n then some (List.range r) else none
  | i + 1 => (cat n r i).bind (nxt n)
def Inb (n : Nat) (ix : List Nat) : Prop := ∀ j x, ix[j]? = some x → x + ix.length ≤ j + n
theorem nxt_inb {n : Nat} {ix ix2 : List Nat} (h : nxt n ix = some ix2) (hi : Inb n ix) : ix2.length = ix.length ∧ Inb n ix2 := by
  unfold nxt at h
  split at h
  · cases h
  · next k hk =>
    cases h
    have h1 := List.find?_some hk
    have h2 := List.mem_of_find?_eq_some hk
    rw [List.mem_reverse, List.mem_range] at h2
    have hk2 : ix[k]? = some ix[k] := List.getElem?_eq_getElem h2
    have hg : ix.getD k 0 = ix[k] := by rw [List.getD_eq_getElem?_getD, hk2]; rfl
    have h3 := hi k _ hk2
    rw [hg] at h1
    have h4 : ix[k] ≠ k + n - ix.length := by simpa using h1
    have hl : (ix.take k ++ (List.range (ix.length - k)).map (ix.getD k 0 + 1 + ·)).length = ix.length := by
      rw [List.length_append, List.length_take, List.length_map, List.length_range]; omega
    refine ⟨hl, fun j x hx => ?_⟩
    rw [hl]
    by_cases hj : j < k
    · rw [List.getElem?_append_left (by rw [List.length_take]; omega), List.getElem?_take, if_pos hj] at hx
      exact hi j x hx
    · rw [List.getElem?_append_right (by rw [List.length_take]; omega), List.length_take, Nat.min_eq_left (by omega), List.getElem?_map] at hx
      obtain ⟨y, hy, rfl⟩ := Option.map_eq_some_iff.mp hx
      have hy2 := List.getElem?_eq_some_iff.mp hy
      obtain ⟨hy3, hy4⟩ := hy2
      rw [List.length_range] at hy3
      rw [List.getElem_range] at hy4
      rw [hg]
      omega
theorem cat_inb {n r : Nat} : ∀ (i : Nat) (ix : List Nat), cat n r i = some ix → ix.length = r ∧ Inb n ix ∧ r ≤ n
  | 0, ix, h => by
    unfold cat at h
    split at h
    · cases h
      refine ⟨List.length_range, fun j x hx => ?_, by assumption⟩
      obtain ⟨a, b⟩ := List.getElem?_eq_some_iff.mp hx
      rw [List.getElem_range] at b
      rw [List.length_range] at *
      omega
    · cases h
  | i + 1, ix, h => by
    unfold cat at h
    obtain ⟨c, hc, hn⟩ := Option.bind_eq_some_iff.mp h
    obtain ⟨a, b, d⟩ := cat_inb i c hc
    obtain ⟨a2, b2⟩ := nxt_inb hn b
    exact ⟨a2.trans a, b2, d⟩
theorem cat_lt {n r i : Nat} {ix : List Nat} (h : cat n r i = some ix) : ∀ k ∈ ix, k < n := fun k hk => by
  obtain ⟨a, b, c⟩ := cat_inb i ix h
  obtain ⟨j, hj⟩ := List.mem_iff_getElem?.mp hk
  have h1 := (List.getElem?_eq_some_iff.mp hj).1
  have := b j k hj
  omega
section
variable {prog : Program} {w : World} {A : Around} {E : Value → Shared → Prop} {s : Shared}
theorem pyNext_first {z TP : Addr} {old : Value} {ix : List Nat} {items : List Value} {Q : Option Value → Shared → Prop} (hz : IsComb s.heap z TP 0 old ix) (hp : s.heap.IsTuple TP items.toArray) (hpz : TP ≠ z) (hl : ix.length ≤ 1000)
    (hQ : ∀ h', IsComb h' z TP 1 (.ref s.heap.objs.size) ix → h'.get? s.heap.objs.size = some { cls := .type "tuple", data := .seq (ix.map fun i => items.toArray.getD i .none).toArray } →
      (∀ c o, c ≠ z → s.heap.get? c = some o → h'.get? c = some o) → Q (some (.ref s.heap.objs.size)) { s with heap := h' }) : wpAny (model prog w) A (pyNext (.ref z)) Q E s := by
  have hT : s.TypeIs (.ref z) "itertools.combinations" := ⟨_, hz, rfl⟩
  unfold pyNext
  exact wpAny_bind (wpAny_attempt (wpAny_callSpecial?_slot (name := Str.ofString "__next__") hT slot_next
    (wpAny_call_entry slot_next hT entry_next (next_first hz hp hpz hl fun h' a b c => wpAny_pure (hQ h' a b c)) (args_next _))))
theorem pyNext_more {z TP : Addr} {old : Value} {ix ix2 : List Nat} {items : List Value} {Q : Option Value → Shared → Prop} (hz : IsComb s.heap z TP 1 old ix) (hp : s.heap.IsTuple TP items.toArray) (hpz : TP ≠ z) (hl : ix2.length ≤ 1000)
    (hn : nxt items.length ix = some ix2)
    (hQ : ∀ h', IsComb h' z TP 1 (.ref s.heap.objs.size) ix2 → h'.get? s.heap.objs.size = some { cls := .type "tuple", data := .seq (ix2.map fun i => items.toArray.getD i .none).toArray } →
      (∀ c o, c ≠ z → s.heap.get? c = some o → h'.get? c = some o) → Q (some (.ref s.heap.objs.size)) { s with heap := h' }) : wpAny (model prog w) A (pyNext (.ref z)) Q E s := by
  have hT : s.TypeIs (.ref z) "itertools.combinations" := ⟨_, hz, rfl⟩
  unfold pyNext
  exact wpAny_bind (wpAny_attempt (wpAny_callSpecial?_slot (name := Str.ofString "__next__") hT slot_next
    (wpAny_call_entry slot_next hT entry_next (next_more hz hp hpz hl hn fun h' a b c => wpAny_pure (hQ h' a b c)) (args_next _))))
theorem pyNext_end {z TP : Addr} {old : Value} {ix : List Nat} {items : List Value} {st : Nat} {Q : Option Value → Shared → Prop} (hz : IsComb s.heap z TP st old ix) (hp : s.heap.IsTuple TP items.toArray) (hh : A.handled = none)
    (hn : st = 2 ∨ (st = 1 ∧ nxt items.length ix = none))
    (hQ : ∀ h', (∀ c o, c ≠ z → s.heap.get? c = some o → h'.get? c = some o) → Q none { s with heap := h' }) : wpAny (model prog w) A (pyNext (.ref z)) Q E s := by
  have hT : s.TypeIs (.ref z) "itertools.combinations" := ⟨_, hz, rfl⟩
  unfold pyNext
  refine wpAny_bind (wpAny_attempt (wpAny_callSpecial?_slot (name := Str.ofString "__next__") hT slot_next
    (wpAny_call_entry slot_next hT entry_next (next_end hz hp hh hn fun h' e hk he => ?_) (args_next _))))
  obtain ⟨o, ho, hc⟩ := he
  refine wpAny_bind (wpAny_isInstance (T := "StopIteration") (b := true) ⟨o, ho, hc⟩ isSubtype_stop ?_)
  exact wpAny_pure (hQ _ hk)
theorem pyIter_comb {z TP : Addr} {old : Value} {ix : List Nat} {st : Nat} {Q : Value → Shared → Prop} (hz : IsComb s.heap z TP st old ix) (h : Q (.ref z) s) : wpAny (model prog w) A (pyIter (.ref z)) Q E s := by
  have hT : s.TypeIs (.ref z) "itertools.combinations" := ⟨_, hz, rfl⟩
  refine wpAny_pyIter_slot hT slot_iter (wpAny_call_entry slot_iter hT entry_iter ?_ (args_iter _))
  show wpAny _ _ (ret (.ref z)) _ _ s
  exact wpAny_pure ⟨_, rfl, "itertools.combinations", _, hT, slot_next.lookup, h⟩
theorem call_comb {Rg : Addr} {a b c : Int} {t u v : Tok} {n r : Nat} {tr : Tok} {Q : Value → Shared → Prop} (hh : A.handled = none) (hr : IsRange s.heap Rg a b c t u v) (h1 : Builtin.Range.small a b c = true) (h2 : Builtin.Range.rangeSize a b c = n) (h3 : n ≤ 1000) (h4 : r ≤ 1000)
    (h : ∀ (h' : Heap) (tk z TP : Nat) (items : List Value), s.heap.objs.size ≤ TP → TP < z → (∀ b o, s.heap.get? b = some o → h'.get? b = some o) → items.length = n → (∀ (i : Nat) (v : Value), items[i]? = some v → ∃ t, v = .int (a + i * c) t) →
      IsComb h' z TP (if r > n then 2 else 0) .none (List.range r) → h'.IsTuple TP items.toArray → h'.objs.size = z + 1 → Q (.ref z) { s with heap := h', toks := tk }) : wpAny (model prog w) A (call (.type "itertools.combinations") [.ref Rg, .int r tr]) Q E s := by
  refine callType_new called (by decide) (typeCall _ _) (newCall _ _) (fun obj => F.args_object_init_3 obj _ _) entry_new (meets_new Rg a b c t u v n r tr) ⟨hh, hr, h1, h2, h3, h4, fun h' tk acc hk hgr hi => ?_⟩
  have g1 : (((h'.push { cls := .type "tuple", data := .seq acc.toList.toArray }).push { cls := .type "itertools.combinations", data := .fields ([.ref h'.objs.size, rawInt (if r > acc.toList.length then 2 else 0), .none] ++ (List.range r).map fun (i : Nat) => rawInt i).toArray })).get? (h'.push { cls := .type "tuple", data := .seq acc.toList.toArray }).objs.size = some _ := Heap.get?_push_size _ rfl
  have g2 : (((h'.push { cls := .type "tuple", data := .seq acc.toList.toArray }).push { cls := .type "itertools.combinations", data := .fields ([.ref h'.objs.size, rawInt (if r > acc.toList.length then 2 else 0), .none] ++ (List.range r).map fun (i : Nat) => rawInt i).toArray })).get? h'.objs.size = some _ := Heap.get?_push_of_some _ (Heap.get?_push_size _ rfl)
  have hl : acc.toList.length = n := by rw [Array.length_toList]; exact hi.1
  refine ⟨⟨_, g1, rfl⟩, ?_⟩
  refine h _ tk _ h'.objs.size acc.toList ?_ ?_ (fun b o e => Heap.get?_push_of_some _ (Heap.get?_push_of_some _ (hk b o e))) hl (fun i v hv => hi.2 i v (by simpa using hv)) ?_ ⟨_, g2, rfl, _, rfl⟩ (by rw [Heap.size_push])
  · exact hgr
  · rw [Heap.size_push]; exact Nat.lt_succ_self _
  · show Heap.get? _ _ = _
    rw [g1, hl]
    by_cases q : r > n
    · rw [if_pos q, if_pos q]; rfl
    · rw [if_neg q, if_neg q]; rfl
end
end RC

/-! RCf: a loop over combinations(range(..), r) -/
namespace RC
open PySem PySem.Spec PyProof.Rows L2
/-- the lists of indices, each in a new tuple -/
def Itk (lo : Int) (n r : Nat) : It :=
  ⟨fun i _ => ∃ ix, cat n r i = some ix, fun i H v H' => ∃ T ix, cat n r i = some ix ∧ v = .ref T ∧ H T = none ∧ H' = upd H T (.tup (ix.map fun (k : Nat) => V.int (lo + (k : Int)))), fun i _ => cat n r i = none⟩
def Tk (z TP : Addr) (items : List Value) (n r : Nat) (i : Nat) (h : Heap) : Prop := h.IsTuple TP items.toArray ∧
  ((i = 0 ∧ IsComb h z TP (if r > n then 2 else 0) .none (List.range r)) ∨ ∃ k ix old, i = k + 1 ∧ cat n r k = some ix ∧ IsComb h z TP 1 old ix)
theorem vals_map {γ : Type} (f : γ → V) (g : γ → Value) : ∀ (zs : List γ), (∀ z ∈ zs, RelV (f z) (g z)) → Vals (zs.map f) (zs.map g)
  | [], _ => .nil
  | z :: zs, h => .cons (h z (.head _)) (vals_map f g zs fun y hy => h y (.tail _ hy))
theorem picks {items : List Value} {lo : Int} {n : Nat} {ix : List Nat} (hl : items.length = n) (hi : ∀ (i : Nat) (v : Value), items[i]? = some v → ∃ t, v = .int (lo + i * 1) t) (hx : ∀ k ∈ ix, k < n) :
    Vals (ix.map fun (k : Nat) => V.int (lo + (k : Int))) (ix.map fun i => items.toArray.getD i .none) :=
  vals_map _ _ ix fun k hk => by
    have h1 : k < items.length := by rw [hl]; exact hx k hk
    have h2 : items[k]? = some items[k] := List.getElem?_eq_getElem h1
    obtain ⟨t, ht⟩ := hi k _ h2
    have h3 : items.toArray.getD k .none = items[k] := by
      rw [Array.getD_eq_getD_getElem?, List.getElem?_toArray, h2]; rfl
    show RelV (V.int (lo + (k : Int))) (items.toArray.getD k .none)
    rw [h3, ht, Int.mul_one]
    exact ⟨t, rfl⟩
theorem turn_comb {P : Program} {w : World} {K : PySem.W.Frag} {tg : Expr} {lo : Int} {n r : Nat} {items : List Value} {z TP : Addr} (hpz : TP ≠ z) (hr : r ≤ 1000) (hl : items.length = n)
    (hi : ∀ (i : Nat) (v : Value), items[i]? = some v → ∃ t, v = .int (lo + i * 1) t) : Turn P w K tg (Itk lo n r) [z, TP] z (Tk z TP items n r) where
  mem := by simp
  obj := fun i h st b hb => by
    obtain ⟨⟨o, ho, hc, nn, hd⟩, st⟩ := st
    have e' : b = z ∨ b = TP := by simpa using hb
    rcases e' with q | q
    · rw [q]
      rcases st with ⟨_, hz⟩ | ⟨k, ix, old, _, _, hz⟩
      · exact ⟨_, hz, fun v q => nomatch q⟩
      · exact ⟨_, hz, fun v q => nomatch q⟩
    · rw [q]; exact ⟨o, ho, fun v q => by rw [hd] at q; cases q⟩
  keep := fun i h h' st k => by
    obtain ⟨⟨o, ho, hc, nn, hd⟩, st⟩ := st
    refine ⟨⟨o, k TP (by simp) _ ho, hc, nn, hd⟩, ?_⟩
    rcases st with ⟨e, hz⟩ | ⟨j, ix, old, e1, e2, hz⟩
    · exact .inl ⟨e, k z (by simp) _ hz⟩
    · exact .inr ⟨j, ix, old, e1, e2, k z (by simp) _ hz⟩
  item := by
    intro X hP hw hK hc i pins s σ H E I hf st hg
    subst hP hw hK
    obtain ⟨hp, st⟩ := st
    obtain ⟨ix, hix⟩ := hg
    obtain ⟨len, _, hrn⟩ := cat_inb i ix hix
    have hTl : TP < s.heap.objs.size := by obtain ⟨o, ho, _⟩ := hp; exact Heap.lt_size ho
    have hzl : z < s.heap.objs.size := by
      rcases st with ⟨_, hz⟩ | ⟨_, _, _, _, _, hz⟩
      · exact Heap.lt_size hz
      · exact Heap.lt_size hz
    have fin_ : ∀ h', IsComb h' z TP 1 (.ref s.heap.objs.size) ix → h'.get? s.heap.objs.size = some { cls := .type "tuple", data := .seq (ix.map fun i => items.toArray.getD i .none).toArray } →
        (∀ c o, c ≠ z → s.heap.get? c = some o → h'.get? c = some o) → wpAny (model X.prog X.w) X.A (letOwnedTupleGo tg (.ref z) (.ref s.heap.objs.size)) (fun _ s2 => ∃ x H', Inv X pins σ H' s2 ∧ RelV x (.ref s.heap.objs.size) ∧ (Itk lo n r).yld i H x H' ∧ Tk z TP items n r (i + 1) s2.heap ∧ ∀ b ∈ [z, TP], H' b = none) E { s with heap := h' } := fun h' a b k => by
      have new : ObjOk X.prog X.w (upd H s.heap.objs.size (.tup (ix.map fun (k : Nat) => V.int (lo + (k : Int))))) h' s.heap.objs.size (.tup (ix.map fun (k : Nat) => V.int (lo + (k : Int)))) :=
        ⟨by
          have : 1000 ≤ sizeLine := by decide
          show (ix.map _).length ≤ sizeLine
          rw [List.length_map]; omega, _, picks hl hi (cat_lt hix), ⟨_, b, rfl, _, rfl⟩⟩
      have I1 : Inv X pins σ (upd H s.heap.objs.size (.tup (ix.map fun (k : Nat) => V.int (lo + (k : Int))))) { s with heap := h' } :=
        I.turnedNew (t' := s.toks) (ch := [z, TP]) (fun c o hb q => k c o (fun q' => hb (by simp [q'])) q) hf (Nat.le_refl _) new
      refine go_of (s := { s with heap := h' }) a rfl rfl (by decide) ⟨.ref s.heap.objs.size, _, I1, rfl, ⟨_, ix, hix, rfl, I.hok.fresh (Nat.le_refl _), rfl⟩, ⟨?_, .inr ⟨i, ix, _, rfl, hix, a⟩⟩, fun c hcm => ?_⟩
      · obtain ⟨o, ho, q⟩ := hp
        exact ⟨o, k TP o hpz ho, q⟩
      · have e' : c = z ∨ c = TP := by simpa using hcm
        have hlt : c < s.heap.objs.size := by rcases e' with q | q <;> (rw [q]; assumption)
        rw [upd_ne (Nat.ne_of_lt hlt)]
        exact (hf c hcm).1
    rcases st with ⟨rfl, hz⟩ | ⟨k, ix0, old, rfl, hk, hz⟩
    · rw [if_neg (by omega)] at hz
      have e : ix = List.range r := by
        unfold cat at hix
        rw [if_pos hrn] at hix
        exact (Option.some.inj hix).symm
      subst e
      exact pyNext_first hz hp hpz (by rw [List.length_range]; exact hr) fun h' a b c => ⟨_, rfl, fin_ h' a b c⟩
    · have hn : nxt items.length ix0 = some ix := by
        unfold cat at hix
        rw [hk] at hix
        rw [hl]; exact hix
      exact pyNext_more hz hp hpz (by omega) hn fun h' a b c => ⟨_, rfl, fin_ h' a b c⟩
  done := by
    intro X hP hw hK hc i pins s σ H E I hf st hg
    subst hP hw hK
    obtain ⟨hp, st⟩ := st
    have hg : cat n r i = none := hg
    have last : ∀ h', (∀ c o, c ≠ z → s.heap.get? c = some o → h'.get? c = some o) → (none : Option Value) = none ∧ Inv X pins σ H { s with heap := h' } := fun h' k =>
      ⟨rfl, I.turnedL (t' := s.toks) (ch := [z, TP]) (fun c o hb q => k c o (fun q' => hb (by simp [q'])) q) hf⟩
    rcases st with ⟨rfl, hz⟩ | ⟨k, ix0, old, rfl, hk, hz⟩
    · unfold cat at hg
      by_cases q : r ≤ n
      · rw [if_pos q] at hg; cases hg
      · rw [if_pos (by omega)] at hz
        exact pyNext_end hz hp (I.ok.hd hc) (.inl rfl) last
    · unfold cat at hg
      rw [hk] at hg
      exact pyNext_end hz hp (I.ok.hd hc) (.inr ⟨rfl, by rw [hl]; exact hg⟩) last
  self := fun A i s Q E st h => by
    obtain ⟨hp, st⟩ := st
    rcases st with ⟨_, hz⟩ | ⟨_, _, _, _, _, hz⟩
    · exact pyIter_comb hz h
    · exact pyIter_comb hz h
def iComb (ta : TA) : TI := fun σ H R => ta σ H fun vs H1 => ∃ (a : Addr) (lo hi : Int) (n r : Nat), vs = [.ref a, .int r] ∧ H1 a = some (.rng lo hi) ∧ -(2 ^ 62) ≤ lo ∧ lo < 2 ^ 62 ∧ -(2 ^ 62) ≤ hi ∧ hi < 2 ^ 62 ∧ n = (hi - lo).toNat ∧ n ≤ 1000 ∧ r ≤ 1000 ∧ R (Itk lo n r) H1
theorem pi_comb {X : Cx} {tg : Expr} {e e2 : Expr} {x : Str} {ta : TA} {p pos : Pos} (hg : Gl X x) (hm : X.mg x = some (.type "itertools.combinations")) (ha : PA X [e, e2] ta) (hc : X.calm = true := by rfl) (hd : (x == ("__debug__" : Str)) = false := by decide)
    (hs : starEach [e, e2] X.env = (false, eval e X.env) :: starEach [e2] X.env := by rfl) (hpl : (backTo pos (starEach [e2] X.env)).any (·.1) = false := by rfl) : PI X tg (.Call (.Name x p) [e, e2] [] pos) (iComb ta) := by
  refine ⟨fun pins s σ H R I h => ?_⟩
  refine Call_ (ld_glob I hg hm (PyProof.Rows.callWith_type1 (thn (ha.run pos pins s σ H _ I h) fun us s1 ⟨vs, H1, I1, r1, q1⟩ => ?_) hs hpl) hd)
  obtain ⟨a, lo, hi, n, r, rfl, hH, b1, b2, b3, b4, hn, hn2, hr, q⟩ := q1
  obtain ⟨u1, u2, rfl, ra, rr⟩ := vals2 r1
  obtain rfl : u1 = Value.ref a := ra
  obtain ⟨t, rfl⟩ := rr
  obtain ⟨t1, t2, t3, ho⟩ := I1.hok a _ hH
  have hsz : Builtin.Range.rangeSize lo hi 1 = (n : Nat) := by rw [rangeSize_one, hn]; split <;> omega
  refine call_comb (I1.ok.hd hc) ho (small_one b1 b2 b3 b4) hsz hn2 hr fun h' tk z TP items g1 g2 keep hl hi2 hz hp hsz2 => ?_
  have I2 : Inv X pins σ H1 { s1 with heap := h', toks := tk } := I1.kept keep
  refine pyIter_comb (s := { s1 with heap := h', toks := tk }) hz ?_
  refine ⟨z, [z, TP], _, _, H1, rfl, I2, turn_comb (lo := lo) (Nat.ne_of_lt g2) hr hl hi2, ⟨hp, .inl ⟨rfl, hz⟩⟩, fun c hcm => ?_, q⟩
  have e' : c = z ∨ c = TP := by simpa using hcm
  have hle : s1.heap.objs.size ≤ c := by
    rcases e' with q | q
    · rw [q]; exact Nat.le_trans g1 (Nat.le_of_lt g2)
    · rw [q]; exact g1
  have f1 := I1.fpOk hle (I1.hok.fresh hle)
  exact f1
end RC

/-! RCg: the lists of indices, all of them -/
namespace RC
/-- the ascending lists of r numbers from a on, m of them to choose from -/
def cm : Nat → Nat → Nat → List (List Nat)
  | _, _, 0 => [[]]
  | _, 0, _ + 1 => []
  | a, m + 1, r + 1 => (cm (a + 1) m r).map (a :: ·) ++ cm (a + 1) m (r + 1)
def nx (n : Nat) : List Nat → Option (List Nat)
  | [] => none
  | a :: c => match nx n c with
    | some d => some (a :: d)
    | none => if a = n - (c.length + 1) then none else some ((List.range (c.length + 1)).map (a + 1 + ·))
theorem find_map_rev {α β : Type} (f : α → β) (p : β → Bool) (l : List α) : (l.map f).find? p = (l.find? (p ∘ f)).map f := by
  induction l with
  | nil => rfl
  | cons x xs ih =>
    rw [List.map_cons, List.find?_cons, List.find?_cons]
    show (match p (f x) with | true => some (f x) | false => _) = Option.map f (match p (f x) with | true => some x | false => _)
    cases p (f x) with
    | true => rfl
    | false => exact ih
theorem nxt_nil (n : Nat) : nxt n [] = none := rfl
theorem nxt_cons (n a : Nat) (c : List Nat) : nxt n (a :: c) = match nxt n c with
    | some d => some (a :: d)
    | none => if a = n - (c.length + 1) then none else some ((List.range (c.length + 1)).map (a + 1 + ·)) := by
  have e1 : (List.range (a :: c).length).reverse = ((List.range c.length).reverse.map Nat.succ) ++ [0] := by
    rw [List.length_cons, List.range_succ_eq_map, List.reverse_cons, List.map_reverse]
  have e2 : ((fun k => (a :: c).getD k 0 != k + n - (a :: c).length) ∘ Nat.succ) = fun k => c.getD k 0 != k + n - c.length := by
    funext k
    show ((a :: c).getD (k + 1) 0 != k + 1 + n - (c.length + 1)) = _
    rw [List.getD_cons_succ, show k + 1 + n - (c.length + 1) = k + n - c.length by omega]
  unfold nxt
  rw [e1, List.find?_append, find_map_rev, e2]
  cases h : (List.range c.length).reverse.find? fun k => c.getD k 0 != k + n - c.length with
  | some k =>
    show some _ = some _
    congr 1
    show (a :: c).take (k + 1) ++ (List.range (c.length + 1 - (k + 1))).map ((a :: c).getD (k + 1) 0 + 1 + ·) = a :: (c.take k ++ _)
    rw [List.take_succ_cons, List.getD_cons_succ, show c.length + 1 - (k + 1) = c.length - k by omega]
    rfl
  | none =>
    simp only [Option.map_none, Option.none_or, List.find?_cons, List.find?_nil]
    by_cases q : a = n - (c.length + 1)
    · have : ((a :: c).getD 0 0 != 0 + n - (a :: c).length) = false := by
        rw [List.getD_cons_zero, Nat.zero_add, List.length_cons, ← q]; simp
      rw [this, if_pos q]
    · have : ((a :: c).getD 0 0 != 0 + n - (a :: c).length) = true := by
        rw [List.getD_cons_zero, Nat.zero_add, List.length_cons]; simpa using q
      rw [this, if_neg q]
      simp
theorem nxt_nx (n : Nat) : ∀ c, nxt n c = nx n c
  | [] => rfl
  | a :: c => by rw [nxt_cons, nxt_nx n c]; rfl
theorem cm_none : ∀ (m a r : Nat), m < r → cm a m r = []
  | _, _, 0, h => absurd h (Nat.not_lt_zero _)
  | 0, _, _ + 1, _ => rfl
  | m + 1, a, r + 1, h => by
    unfold cm
    rw [cm_none m (a + 1) r (by omega), cm_none m (a + 1) (r + 1) (by omega)]
    rfl
theorem cm_mem : ∀ (m a r : Nat) (c : List Nat), c ∈ cm a m r ↔ c.length = r ∧ c.Pairwise (· < ·) ∧ ∀ x ∈ c, a ≤ x ∧ x < a + m
  | m, a, 0, c => by
    unfold cm
    rw [List.mem_singleton]
    constructor
    · rintro rfl; exact ⟨rfl, .nil, fun x hx => by cases hx⟩
    · rintro ⟨h, _⟩; exact List.eq_nil_of_length_eq_zero h
  | 0, a, r + 1, c => by
    unfold cm
    constructor
    · intro h; cases h
    · rintro ⟨h1, _, h3⟩
      cases c with
      | nil => cases h1
      | cons x c => have := h3 x (.head _); omega
  | m + 1, a, r + 1, c => by
    unfold cm
    rw [List.mem_append, List.mem_map]
    constructor
    · rintro (⟨d, hd, rfl⟩ | h)
      · obtain ⟨h1, h2, h3⟩ := (cm_mem m (a + 1) r d).mp hd
        refine ⟨by rw [List.length_cons, h1], List.pairwise_cons.mpr ⟨fun x hx => (h3 x hx).1, h2⟩, fun x hx => ?_⟩
        rcases List.mem_cons.mp hx with rfl | hx
        · omega
        · have := h3 x hx; omega
      · obtain ⟨h1, h2, h3⟩ := (cm_mem m (a + 1) (r + 1) c).mp h
        exact ⟨h1, h2, fun x hx => by have := h3 x hx; omega⟩
    · rintro ⟨h1, h2, h3⟩
      cases c with
      | nil => cases h1
      | cons x d =>
        rw [List.pairwise_cons] at h2
        have hx := h3 x (.head _)
        by_cases e : x = a
        · subst e
          refine .inl ⟨d, (cm_mem m (x + 1) r d).mpr ⟨Nat.succ.inj h1, h2.2, fun y hy => ?_⟩, rfl⟩
          have := h3 y (.tail _ hy); have := h2.1 y hy; omega
        · refine .inr ((cm_mem m (a + 1) (r + 1) _).mpr ⟨h1, List.pairwise_cons.mpr h2, fun y hy => ?_⟩)
          have := h3 y hy
          rcases List.mem_cons.mp hy with rfl | hy2
          · omega
          · have := h2.1 y hy2; omega
theorem cm_run : ∀ (m a r : Nat), (cm a m r)[0]? = (if r ≤ m then some ((List.range r).map (a + ·)) else none) ∧
    ∀ i c, (cm a m r)[i]? = some c → (cm a m r)[i + 1]? = nx (a + m) c
  | m, a, 0 => by
    unfold cm
    refine ⟨by rw [if_pos (Nat.zero_le _)]; rfl, fun i c h => ?_⟩
    cases i with
    | zero => cases h; rfl
    | succ i => cases h
  | 0, a, r + 1 => by
    unfold cm
    exact ⟨by rw [if_neg (by omega)]; rfl, fun i c h => by cases h⟩
  | m + 1, a, r + 1 => by
    obtain ⟨a1, a2⟩ := cm_run m (a + 1) r
    obtain ⟨b1, b2⟩ := cm_run m (a + 1) (r + 1)
    have en : a + 1 + m = a + (m + 1) := by omega
    rw [en] at a2 b2
    unfold cm
    constructor
    · by_cases h : r ≤ m
      · rw [if_pos h] at a1
        have h0 : 0 < (cm (a + 1) m r).length := (List.getElem?_eq_some_iff.mp a1).1
        rw [if_pos (by omega), List.getElem?_append_left (by rw [List.length_map]; exact h0), List.getElem?_map, a1]
        show some (a :: _) = some _
        congr 1
        rw [List.range_succ_eq_map, List.map_cons, List.map_map]
        congr 1
        refine List.map_congr_left fun x _ => ?_
        show a + 1 + x = a + (x + 1)
        omega
      · rw [if_neg (by omega), cm_none m (a + 1) r (by omega), cm_none m (a + 1) (r + 1) (by omega)]
        rfl
    · intro i c h
      have lm : ((cm (a + 1) m r).map (a :: ·)).length = (cm (a + 1) m r).length := List.length_map ..
      by_cases hi : i < (cm (a + 1) m r).length
      · rw [List.getElem?_append_left (by rw [lm]; exact hi), List.getElem?_map] at h
        obtain ⟨d, hd, rfl⟩ := Option.map_eq_some_iff.mp h
        have hn := a2 i d hd
        have dl : d.length = r := ((cm_mem m (a + 1) r d).mp (List.mem_of_getElem? hd)).1
        show _ = nx (a + (m + 1)) (a :: d)
        unfold nx
        by_cases hi2 : i + 1 < (cm (a + 1) m r).length
        · rw [List.getElem?_append_left (by rw [lm]; exact hi2), List.getElem?_map]
          rw [List.getElem?_eq_getElem hi2] at hn ⊢
          rw [← hn]
          rfl
        · rw [List.getElem?_append_right (by rw [lm]; omega), lm, show i + 1 - (cm (a + 1) m r).length = 0 by omega, b1]
          rw [List.getElem?_eq_none (by omega)] at hn
          rw [← hn, dl]
          by_cases q : r + 1 ≤ m
          · rw [if_pos q]
            show _ = if a = _ then none else some _
            rw [if_neg (by omega)]
          · rw [if_neg q]
            have : (cm (a + 1) m r) ≠ [] := fun z => by rw [z] at hi; exact absurd hi (Nat.not_lt_zero _)
            have hrm : r ≤ m := Nat.le_of_not_lt fun z => this (cm_none m (a + 1) r z)
            show _ = if a = _ then none else some _
            rw [if_pos (by omega)]
      · rw [List.getElem?_append_right (by rw [lm]; omega), lm] at h
        rw [List.getElem?_append_right (by rw [lm]; omega), lm, show i + 1 - (cm (a + 1) m r).length = (i - (cm (a + 1) m r).length) + 1 by omega]
        exact b2 _ c h
theorem cat_cm (n r : Nat) : ∀ i, cat n r i = (cm 0 n r)[i]?
  | 0 => by
    rw [(cm_run n 0 r).1]
    unfold cat
    by_cases h : r ≤ n
    · rw [if_pos h, if_pos h]
      congr 1
      conv => lhs; rw [← List.map_id (List.range r)]
      exact List.map_congr_left fun x _ => (Nat.zero_add x).symm
    · rw [if_neg h, if_neg h]
  | i + 1 => by
    unfold cat
    rw [cat_cm n r i]
    cases h : (cm 0 n r)[i]? with
    | none => exact (List.getElem?_eq_none (Nat.le_trans (List.getElem?_eq_none_iff.mp h) (Nat.le_succ _))).symm
    | some c =>
      show nxt n c = _
      rw [(cm_run n 0 r).2 i c h, nxt_nx, Nat.zero_add]
end RC

/-! EnT: enumerate over a tuple -/
namespace EnT
open PySem PySem.Spec PyProof.Rows L2
open PySem.Sem (wp)
open AutoSeq1 (wpAny_loadPart')
theorem new_tup (l : Addr) (xs : Array Value) (n : Nat) (dct : Option Addr) (sl : Array (Option Value)) :
    Meets (Builtin.«enumerate.__new__» ⟨[.type "enumerate", .ref l], []⟩) (fun _ R s => s.heap.get? l = some { cls := .type "tuple", dict := dct, data := .seq xs n, slots := sl } ∧
      R (.ok (.ret (.ref (s.heap.push { cls := .type "tuple_iterator", data := .fields #[.ref l, .int 0 0] }).objs.size)))
        { s with heap := (s.heap.push { cls := .type "tuple_iterator", data := .fields #[.ref l, .int 0 0] }).push { cls := .type "enumerate", data := .fields #[.none, .bool false, .ref s.heap.objs.size, rawInt 0, .none, .none] } }) :=
  .of_wp fun P W A R s h => by
    obtain ⟨hp, g, d, tk, os⟩ := s; obtain ⟨ho, h⟩ := h
    have su := sub_enumerate
    have hT : Heap.IsTuple (Shared.heap ⟨hp, g, d, tk, os⟩) l xs := ⟨_, ho, rfl, n, rfl⟩
    wp_walk using wpAny_loadPart' ho
    refine wpAny_stack_any fun st => wpAny_pure ?_
    split
    · rename_i c _ _ _ _ _
      cases (c == Value.type "enumerate") <;> (wp_walk using wpAny_loadPart' ho, wpAny_pyIter_tuple hT; exact ⟨_, rfl, h⟩)
    · wp_walk using wpAny_loadPart' ho, wpAny_pyIter_tuple hT
      exact ⟨_, rfl, h⟩
theorem call_tup {prog : Program} {w : World} {A : Around} {E : Value → Shared → Prop} {s : Shared} {l : Addr} {xs : Array Value} {Q : Value → Shared → Prop} (hT : s.heap.IsTuple l xs)
    (q : ∀ h', IsEnum h' (s.heap.objs.size + 1) s.heap.objs.size 0 .none → h'.IsTupleIter s.heap.objs.size l 0 → (∀ b o, s.heap.get? b = some o → h'.get? b = some o) → Q (.ref (s.heap.objs.size + 1)) { s with heap := h' }) :
    wpAny (model prog w) A (call (.type "enumerate") [.ref l]) Q E s := by
  obtain ⟨⟨c, dct, dt, sl⟩, ho, hc, n, hd⟩ := hT
  obtain rfl : c = .type "tuple" := hc
  obtain rfl : dt = .seq xs n := hd
  refine callType_new F.called_enumerate (by decide) (F.typeCall_enumerate_1 _) (F.newCall_enumerate_1 _) (fun z => F.args_object_init_2 z _) F.entry_enumerate_new (new_tup l xs n dct sl) ⟨ho, ?_⟩
  have z1 : (s.heap.push { cls := .type "tuple_iterator", data := .fields #[.ref l, .int 0 0] }).objs.size = s.heap.objs.size + 1 := Heap.size_push ..
  show _ ∧ _
  rw [z1]
  have he : IsEnum ((s.heap.push { cls := .type "tuple_iterator", data := .fields #[.ref l, .int 0 0] }).push { cls := .type "enumerate", data := .fields #[.none, .bool false, .ref s.heap.objs.size, rawInt 0, .none, .none] }) (s.heap.objs.size + 1) s.heap.objs.size 0 .none := by
    have z2 := Heap.get?_push_size (s.heap.push { cls := .type "tuple_iterator", data := .fields #[.ref l, .int 0 0] }) (o := { cls := .type "enumerate", data := .fields #[.none, .bool false, .ref s.heap.objs.size, rawInt 0, .none, .none] }) rfl
    rw [z1] at z2
    exact z2
  exact ⟨⟨_, he, rfl⟩, q _ he ⟨_, Heap.get?_push_of_some _ (Heap.get?_push_size _ rfl), rfl, rfl⟩ fun b o x => Heap.get?_push_of_some _ (Heap.get?_push_of_some _ x)⟩
theorem drawsT {prog : Program} {w : World} {A : Around} (hh : A.handled = none) (it l : Addr) (hne : l ≠ it) (xs : Array Value) :
    Draws prog w A it [it, l] xs.size (fun i v => xs[i]? = some v) (fun i h => h.IsTupleIter it l i ∧ h.IsTuple l xs) where
  live := fun _ _ z => let ⟨o, ho, _⟩ := z.1; ⟨o, ho⟩
  frame := fun _ _ _ z k => ⟨z.1.at fun o e => k it (by simp) o e, let ⟨o, ho, r⟩ := z.2; ⟨o, k l (by simp) o ho, r⟩⟩
  item := fun i s Q E hi z q =>
    RZ.nextOf_tuple_item z.1 z.2 (x := xs[i]) (by simp [hi]) fun h' a b => q _ h' s.toks (by simp [hi]) ⟨a, let ⟨o, ho, r⟩ := z.2; ⟨o, (b.2 l hne).trans ho, r⟩⟩ b
  done := fun s Q E z q => RZ.nextOf_tuple_end hh z.1 z.2 (by simp) q
/-- the tuple at a, each item in a new pair -/
def ItE (K : PySem.W.Frag) (a : Addr) : It :=
  ⟨fun i H => ∃ (xs : List V) (x : V), SqT K H a xs ∧ xs[i]? = some x, fun i H v H' => ∃ T x, v = .ref T ∧ H T = none ∧ H' = upd H T (.tup [.int (i : Nat), x]) ∧ ∀ xs, SqT K H a xs → xs[i]? = some x, fun i H => ∃ xs : List V, SqT K H a xs ∧ xs.length ≤ i⟩
theorem turn_ {P : Program} {w : World} {K : PySem.W.Frag} {elts : List Expr} {kk : Nat} {tpos : Pos} (a e it : Addr) :
    Turn P w K (.Tuple elts kk tpos) (ItE K a) [e, it] e (fun i h => (∃ old, IsEnum h e it ((i : Nat) : Int) old) ∧ h.IsTupleIter it a i ∧ e ≠ it ∧ a ≠ it ∧ e ≠ a) where
  mem := by simp
  obj := fun i h z b hb => by
    obtain ⟨⟨old, he⟩, ⟨o, ho, _, hd⟩, _⟩ := z
    rcases (show b = e ∨ b = it by simpa using hb) with y | y
    · rw [y]; exact ⟨_, he, fun v q => nomatch q⟩
    · rw [y]; exact ⟨o, ho, fun v q => by rw [hd] at q; cases q⟩
  keep := fun i h h' z k => let ⟨⟨old, he⟩, hi, r⟩ := z; ⟨⟨old, k e (by simp) _ he⟩, hi.at fun o q => k it (by simp) o q, r⟩
  item := by
    intro X hP hw hK hc i pins s σ H E I hf z hg
    subst hP hw hK
    obtain ⟨⟨old, he⟩, hit, hne, hai, hea⟩ := z
    obtain ⟨xs, x, hq, hx⟩ := hg
    obtain ⟨its, rv, p, _⟩ := I.tuple hq
    obtain ⟨u, hu, ru⟩ := rv.get hx
    have l1 : e < s.heap.objs.size := Heap.lt_size he
    have l2 : it < s.heap.objs.size := by obtain ⟨_, q, _⟩ := hit; exact Heap.lt_size q
    have hi : i < its.toArray.size := by rw [List.size_toArray]; exact (List.getElem?_eq_some_iff.mp hu).1
    refine wpAny_pyNext_enum_itemD (drawsT (A := X.A.in1) (I.ok.hd hc) it a hai its.toArray) he ⟨hit, p⟩ hi hne (by simp [hne, hea]) fun u2 h' tk hP ho z2 hT _ hk => ?_
    have eu : u2 = u := by
      have hP : its.toArray[i]? = some u2 := hP
      rw [List.getElem?_toArray, hu] at hP
      exact (Option.some.inj hP).symm
    subst eu
    refine ⟨_, rfl, wpAny_letOwnedTupleGo_enum (s := { s with heap := h', toks := tk + 1 }) ho fun h'' he' sb => ?_⟩
    have hT2 : h''.get? s.heap.objs.size = some { cls := .type "tuple", data := .seq #[.int i tk, u2] } := (sb.2 _ (Nat.ne_of_gt l1)).trans hT
    have new : ObjOk X.prog X.w (upd H s.heap.objs.size (.tup [.int (i : Nat), x])) h'' s.heap.objs.size (.tup [.int (i : Nat), x]) :=
      ⟨by show 2 ≤ sizeLine; decide, [.int i tk, u2], .cons ⟨_, rfl⟩ (.cons ru .nil), ⟨_, hT2, rfl, _, rfl⟩⟩
    have I1 : Inv X pins σ (upd H s.heap.objs.size (.tup [.int (i : Nat), x])) { s with heap := h'', toks := tk + 1 } :=
      I.turnedNew (ch := [e, it]) (fun b ob hb q => (sb.2 b (fun y => hb (by simp [y]))).trans (hk b ob (fun y => hb (by simp [y])) (fun y => hb (by simp [y])) q)) hf (Nat.le_refl _) new
    refine ⟨.ref s.heap.objs.size, _, I1, rfl, ⟨_, x, rfl, I.hok.fresh (Nat.le_refl _), rfl, fun ys hy => by rw [I.tuple_inj hy hq]; exact hx⟩, ⟨⟨u2, ?_⟩, z2.1.at fun o q => (sb.2 it (Ne.symm hne)).trans q, hne, hai, hea⟩, fun b hb => ?_⟩
    · rw [show ((i + 1 : Nat) : Int) = (i : Int) + 1 by omega]; exact he'
    · have hb' : b < s.heap.objs.size := by rcases (show b = e ∨ b = it by simpa using hb) with y | y <;> (rw [y]; assumption)
      rw [upd_ne (Nat.ne_of_lt hb')]
      exact (hf b hb).1
  done := by
    intro X hP hw hK hc i pins s σ H E I hf z hg
    subst hP hw hK
    obtain ⟨⟨old, he⟩, hit, hne, hai, hea⟩ := z
    obtain ⟨xs, hq, hx⟩ := hg
    obtain ⟨its, rv, p, _⟩ := I.tuple hq
    obtain ⟨f0, f1, f2, f3, f4, f5⟩ := hf it (by simp)
    have hl := rv.length
    have hT : s.TypeIs (.ref e) "enumerate" := ⟨_, he, rfl⟩
    unfold pyNext
    refine wpAny_bind (wpAny_attempt (wpAny_callSpecial?_slot (name := Str.ofString "__next__") hT F.slot_enumerate_next (wpAny_call_entry F.slot_enumerate_next hT F.entry_enumerate_next ?_ (F.args_enumerate_next_1 _))))
    show wpAny _ _ (field (.ref e) 2 >>= _) _ _ _
    refine wpAny_bind (wpAny_field he rfl (x := .ref it) rfl ?_)
    refine wpAny_bind (RZ.nextOf_tuple_end (A := X.A.in1) (I.ok.hd hc) hit p (by simp; omega) fun h' x eb hx' => ?_)
    obtain ⟨o, ho, hc'⟩ := hx'
    refine wpAny_bind (wpAny_isInstance (T := "StopIteration") (b := true) ⟨o, ho, hc'⟩ isSubtype_stop ?_)
    exact wpAny_pure ⟨rfl, I.turned (t' := s.toks) (fun b o hb q => eb b o hb q) f0 f1 f3 f4 f5⟩
  self := fun A i s Q E z h => let ⟨⟨_, he⟩, _⟩ := z; wpAny_pyIter_enum he h
def iEnT (K : PySem.W.Frag) (ta : TA) : TI := fun σ H R => ta σ H fun vs H1 => ∃ a xs, vs = [.ref a] ∧ SqT K H1 a xs ∧ R (ItE K a) H1
theorem pi_enT {X : Cx} {e : Expr} {ta : TA} {p pos tpos : Pos} {elts : List Expr} {kk : Nat} (hg : Gl X "enumerate") (hm : X.mg "enumerate" = none) (ha : PA X [e] ta) (hs : starEach [e] X.env = [(false, eval e X.env)] := by rfl) :
    PI X (.Tuple elts kk tpos) (.Call (.Name "enumerate" p) [e] [] pos) (iEnT X.K ta) := by
  refine ⟨fun pins s σ H R I h => Call_ (ld_blt I hg hm boot_enumerate (PyProof.Rows.callWith_type1 (thn (ha.run pos pins s σ H _ I h) fun us s1 ⟨vs, H1, I1, r1, a, xs, ex, hq, q⟩ => ?_) hs rfl))⟩
  subst ex
  obtain ⟨u, rfl, ru⟩ := vals1 r1
  obtain rfl : u = Value.ref a := ru
  obtain ⟨its, rv, p', _⟩ := I1.tuple hq
  obtain ⟨o1, ho1, _⟩ := id p'
  have hal : a < s1.heap.objs.size := Heap.lt_size ho1
  refine call_tup (xs := its.toArray) p' fun h' he hit hk => wpAny_pyIter_enum he ?_
  refine ⟨s1.heap.objs.size + 1, [s1.heap.objs.size + 1, s1.heap.objs.size], _, _, H1, rfl, I1.kept (t' := s1.toks) hk, turn_ a (s1.heap.objs.size + 1) s1.heap.objs.size, ⟨⟨.none, he⟩, hit, Nat.succ_ne_self _, Nat.ne_of_lt hal, Nat.ne_of_gt (Nat.lt_succ_of_lt hal)⟩, fun b hb => ?_, q⟩
  have hle : s1.heap.objs.size ≤ b := by
    rcases (show b = s1.heap.objs.size + 1 ∨ b = s1.heap.objs.size by simpa using hb) with z | z <;> (rw [z]; omega)
  exact I1.fpOk hle (I1.hok.fresh hle)
end EnT

/-! Mir33: range(n) as a value; a walk over combinations(range(n), r) -/
namespace Mir
open PySem L2
/-- a range object -/
structure Rg where
  lo : Int
  hi : Int
instance rpRg : Rp Rg := ⟨fun _ x H v => ∃ a, v = V.ref a ∧ H a = some (.rng x.lo x.hi), fun e ⟨a, h1, h2⟩ => ⟨a, h1, e _ _ h2⟩⟩
/-- range(n) -/
def rRg1 : List V → Hp → VK → Prop := fun vs H Q => ∃ i, vs = [V.int i] ∧ ∀ p, H p = none → Q (.ref p) (upd H p (.rng 0 i))
theorem cr_range1 {X : Cx} : CallR X (.type "range") rRg1 := by
  intro pins s σ H vs us Q I r h
  obtain ⟨i, rfl, q⟩ := h
  obtain ⟨u1, rfl, ri⟩ := vals1 r
  obtain ⟨t, rfl⟩ := ri
  exact call_range_1 ⟨.ref s.heap.objs.size, upd H s.heap.objs.size (.rng 0 i), I.laid (t' := s.toks + 1 + 1) (fun b o e => Heap.get?_push_of_some _ e) (Nat.le_refl _) ⟨s.toks, t, s.toks + 1, Heap.get?_push_size _ rfl⟩, rfl, q _ (I.hok.fresh (Nat.le_refl _))⟩
section
variable {K : PySem.W.Frag} {S α ζ : Type} [SH S] [Rp α] {Γ : S → List Sl} {tl : TA}
theorem cb_rg1 {n : Int} : Cb rRg1 [pv K n] (pv K (Rg.mk 0 n)) := cb1 fun I N v Q d r q => by
  cases (show v = V.int n from r)
  refine ⟨n, rfl, fun p hp => ?_⟩
  obtain ⟨h1, h2⟩ := ov_none hp
  rw [ov_upd h1]
  exact q _ _ (Ex.new h2) (dis_upd d h1) ⟨p, rfl, upd_same⟩
/-- the tuples that combinations(range(lo, hi), r) hands out -/
def cmb (lo hi : Int) (r : Nat) : List (Tu Int) := (RC.cm 0 (hi - lo).toNat r).map fun ix => ⟨ix.map fun k => lo + (k : Nat)⟩
theorem it_comb {lo hi : Int} {n r : Nat} (hn : n = (hi - lo).toNat) {I : Hp} : ItOk K (RC.Itk lo n r) I (cmb lo hi r) := fun I1 N1 a1 d1 => by
  subst hn
  constructor
  · intro i x hx
    unfold cmb at hx
    rw [List.getElem?_map] at hx
    obtain ⟨ix, hix, rfl⟩ := Option.map_eq_some_iff.mp hx
    refine ⟨⟨ix, (RC.cat_cm _ _ i).trans hix⟩, fun v H' ⟨T, ix2, y1, y2, y3, y4⟩ => ?_⟩
    have e : ix2 = ix := Option.some.inj (y1.symm.trans ((RC.cat_cm _ _ i).trans hix))
    subst e
    obtain ⟨m1, m2, m3, m4⟩ := mk_tup (K := K) (vs := ix2.map fun (k : Nat) => V.int (lo + (k : Int))) d1 y3
    refine ⟨_, by rw [y4, m4], m1, m2, T, _, y2, m3, ?_⟩
    have e2 : (ix2.map fun (k : Nat) => V.int (lo + (k : Int))) = ((ix2.map fun (k : Nat) => lo + (k : Int)).map V.int) := by rw [List.map_map]; rfl
    rw [e2]
    exact rs_of_int
  · show RC.cat _ _ (cmb lo hi r).length = none
    rw [RC.cat_cm]
    unfold cmb
    rw [List.length_map]
    exact List.getElem?_eq_none (Nat.le_refl _)
def cmOk (a : Rg) (r : Int) : Bool := b62 a.lo && b62 a.hi && decide (a.hi - a.lo ≤ 1000 ∧ 0 ≤ r ∧ r ≤ 1000)
theorem im_comb {m : Mn S ζ} {f : ζ → Rg} {g : ζ → Int} (h : AM tl Γ m fun z => [pv K (f z), pv K (g z)]) : IM K (RC.iComb tl) Γ (mb m fun z => mc (cmOk (f z) (g z)) (cmb (f z).lo (f z).hi (g z).toNat)) := fun s I F N σ e d Rr q =>
  h s I F N σ e d _ (R.sat_imp (sat_mb.mp q) fun z s1 q vs I1 N1 a1 d1 e1 r1 => by
    obtain ⟨c, q⟩ := sat_mc.mp q
    unfold cmOk at c
    obtain ⟨c12, c3⟩ := Bool.and_eq_true_iff.mp c
    obtain ⟨c1, c2⟩ := Bool.and_eq_true_iff.mp c12
    have c1 := of_decide_eq_true c1
    have c2 := of_decide_eq_true c2
    have c3 := of_decide_eq_true c3
    obtain ⟨u, us, rfl, ⟨a, x1, x2⟩, r1⟩ := all2_c r1
    obtain ⟨w, ws, rfl, r', r1⟩ := all2_c r1
    cases all2_n r1
    cases (show w = V.int (g z) from r')
    have er : (((g z).toNat : Nat) : Int) = g z := Int.toNat_of_nonneg c3.2.1
    refine ⟨a, (f z).lo, (f z).hi, ((f z).hi - (f z).lo).toNat, (g z).toNat, by rw [x1, er], ex_ov d1 _ _ x2, c1.1, c1.2, c2.1, c2.2, rfl, by omega, by omega, q _ I1 N1 a1 d1 e1 (it_comb rfl)⟩)
theorem it_enT {a : Addr} {xs : List α} {vs : List V} {I : Hp} (h : SqT K I a vs) (r : Rs K xs I vs) : ItOk K (EnT.ItE K a) I (enumL xs) := fun I1 N1 a1 d1 => by
  have h1 : SqT K (ov N1 I1) a vs := sqt_up (a1.trans (ex_ov d1)) h
  refine ⟨fun i x hx => ?_, ⟨vs, h1, by unfold enumL; rw [List.length_map, List.length_zipIdx, r.length]; exact Nat.le_refl _⟩⟩
  unfold enumL at hx
  rw [List.getElem?_map] at hx
  obtain ⟨z, hz, rfl⟩ := Option.map_eq_some_iff.mp hx
  rw [List.getElem?_zipIdx] at hz
  obtain ⟨y, hy, rfl⟩ := Option.map_eq_some_iff.mp hz
  obtain ⟨v, e1, e2⟩ := r.get hy
  refine ⟨⟨vs, v, h1, e1⟩, fun u H' ⟨T, x', y1, y2, y3, y4⟩ => ?_⟩
  have e3 := y4 vs h1
  rw [e1] at e3
  cases e3
  obtain ⟨m1, m2, m3, m4⟩ := mk_tup (K := K) (vs := [.int (i : Nat), v]) d1 y2
  refine ⟨_, by rw [y3, m4], m1, m2, T, _, v, y1, m3, ?_, Rp.up (a1.trans m1) e2⟩
  show V.int (i : Nat) = V.int ((0 + i : Nat) : Int)
  rw [Nat.zero_add]
/-- enumerate of a list or a tuple -/
theorem im_enSq {x : Sq α} (h : ∀ s, AP tl (Γ s) [pv K x]) : IM K (iAlt (iEnum K tl) (EnT.iEnT K tl)) Γ (mp (enumL x.l)) := fun s I F N σ e d Rr q => by
  obtain ⟨t, l⟩ := x
  cases t with
  | true =>
    refine .inr (h s I F N σ e d _ fun vs I1 a1 d1 r1 => ?_)
    obtain ⟨u, us, rfl, ⟨a, xs, x1, x2, x3⟩, r1⟩ := all2_c r1
    cases all2_n r1
    exact ⟨a, xs, by rw [x1], sqt_ov d1 x2, q _ I1 N a1 d1 (e.up a1) (it_enT x2 x3)⟩
  | false =>
    refine .inl (h s I F N σ e d _ fun vs I1 a1 d1 r1 => ?_)
    obtain ⟨u, us, rfl, ⟨a, xs, x1, x2, x3⟩, r1⟩ := all2_c r1
    cases all2_n r1
    exact ⟨a, xs, by rw [x1], SqL.of (ex_ov d1 _ _ x2), q _ I1 N a1 d1 (e.up a1) (it_enum (SqL.of x2) x3)⟩
theorem eo_listRg1M {te : TE} {m : Mn S Int} (h : EM K te Γ m) : EO (tLstRg (tRg1 te)) Γ (mb m fun n => mc (rgOk 0 n) (rng 0 n.toNat)) (rOw (ol K)) := fun s I F N σ e d Q q =>
  h s I F N σ e d _ (R.sat_imp (sat_mb.mp q) fun n s1 q v I1 N1 a1 d1 e1 r1 => by
    obtain ⟨c, q⟩ := sat_mc.mp q
    have c := of_decide_eq_true c
    refine ⟨n, r1, c, fun p hp => q _ _ I1 N1 a1 e1 (new_list d1 hp ?_)⟩
    rw [rgV_eq, Int.sub_zero]
    exact rs_of_int)
theorem eo_listRg2 {te tb : TE} {m1 m2 : Mn S Int} (h1 : EM K te Γ m1) (h2 : EM K tb Γ m2) : EO (tLstRg (tRg2 te tb)) Γ (mb m1 fun x => mb m2 fun y => mc (rgOk x y) (rng x (y - x).toNat)) (rOw (ol K)) := fun s I F N σ e d Q q =>
  h1 s I F N σ e d _ (R.sat_imp (sat_mb.mp q) fun x s1 q v I1 N1 a1 d1 e1 r1 => h2 s1 I1 F N1 σ e1 d1 _ (R.sat_imp (sat_mb.mp q) fun y s2 q w I2 N2 a2 d2 e2 r2 => by
    obtain ⟨c, q⟩ := sat_mc.mp q
    have c := of_decide_eq_true c
    refine ⟨x, y, r1, r2, c, fun p hp => q _ _ I2 N2 (a1.trans a2) e2 (new_list d2 hp ?_)⟩
    rw [rgV_eq]
    exact rs_of_int))
/-- x if True else y -/
theorem ep_ifT {Γ1 : List Sl} {tt : TT} {te tb : TE} {w : PV} (h : TP tt Γ1 true) (h1 : EP te Γ1 w) : EP (tIf tt te tb) Γ1 w := fun I F M σ e d Q k => h I F M σ e d _ fun I1 x1 y1 =>
  h1 I1 F M σ (e.up x1) y1 Q fun v I2 x2 y2 z2 => k v I2 (x1.trans x2) y2 z2
theorem em_ifT {tt : TT} {te tb : TE} {m : Mn S α} (h : ∀ s, TP tt (Γ s) true) (h1 : EM K te Γ m) : EM K (tIf tt te tb) Γ m := fun s I F N σ e d Q q => h s I F N σ e d _ fun I1 a1 d1 =>
  h1 s I1 F N σ (e.up a1) d1 Q (R.sat_imp q fun x s1 q v I2 N2 a2 d2 e2 r2 => q v I2 N2 (a1.trans a2) d2 e2 r2)
/-- xs[i], xs[k] = a, b -/
def swp {α : Type} (xs : List α) (i k : Int) (a b : α) : Option (List α) := (ixN xs.length i).bind fun p => (ixN xs.length k).map fun q => (xs.set p a).set q b
theorem rp_swp {xs : List α} {j : Nat} {te t1 t2 : TE} {m : Mn S (α × α)} {i k : Int} {Γ' : List α → S → List Sl} (hj : ∀ s, (Γ s)[j]? = some (.ow (ol K xs))) (h : EM K te Γ m) (h1 : ∀ s, EP t1 (Γ s) (pv K i)) (h2 : ∀ (ys : List α) s, EP t2 ((Γ s).set j (.ow (ol K ys))) (pv K k))
    (hΓ : ∀ ys s, (Γ s).set j (.ow (ol K ys)) = Γ' ys s) : RP (tAsg te (gTup K 2 (gCons (gSub (tVar j) t1 rSetL) (gCons (gSub (tVar j) t2 rSetL) gNil)))) Γ (mb m fun x => mo (swp xs i k x.1 x.2)) Γ' := fun s I F N σ e d D q =>
  h s I F N σ e d _ (R.sat_imp (sat_mb.mp q) fun x s1 q v I1 N1 a1 d1 e1 ⟨p, v1, v2, y1, y2, y3, y4⟩ => by
    obtain ⟨zs, hz, q⟩ := sat_mo.mp q
    unfold swp at hz
    obtain ⟨pa, hpa, hz⟩ := Option.bind_eq_some_iff.mp hz
    obtain ⟨pb, hpb, rfl⟩ := Option.map_eq_some_iff.mp hz
    obtain ⟨a, vs, g1, g2, g3⟩ := own_at e1 (hj s1)
    refine ⟨p, [v1, v2], y1, sqt_ov d1 y2, rfl, v1, [v2], rfl, _, g1, h1 s1 I1 F N1 σ e1 d1 _ fun w I2 a2 d2 r2 => ?_⟩
    refine ⟨a, vs, i, pa, rfl, r2, ov_l g2, by rw [← g3.length]; exact hpa, ?_⟩
    have e2 := e1.up a2
    obtain ⟨N3, x1, x2, x3⟩ := own_upd (P' := ol K (xs.set pa x.1)) (us := vs.set pa v1) (vs := vs) (I' := I2) (N' := N1) e2 d2 (hj s1) g1 ol_sing ⟨_, rfl, All2.set (F := fun x v => Rp.r K x I2 v) (Rp.up a2 y3) pa (rs_up a2 g3)⟩
    rw [x1]
    have hj2 : ((Γ s1).set j (.ow (ol K (xs.set pa x.1))))[j]? = some (.ow (ol K (xs.set pa x.1))) := by
      rw [List.getElem?_set_self]
      exact (List.getElem?_eq_some_iff.mp (hj s1)).1
    obtain ⟨a', us, f1, f2, f3⟩ := own_at x3 hj2
    rw [g1] at f1
    cases f1
    refine ⟨v2, [], rfl, _, g1, h2 (xs.set pa x.1) s1 I2 F N3 σ x3 x2 _ fun w2 I3 a3 d3 r3 => ?_⟩
    refine ⟨a, us, k, pb, rfl, r3, ov_l f2, by rw [← f3.length, List.length_set]; exact hpb, ?_⟩
    have e3 := x3.up a3
    obtain ⟨N4, u1, u2, u3⟩ := own_upd (P' := ol K ((xs.set pa x.1).set pb x.2)) (us := us.set pb v2) (vs := us) (I' := I3) (N' := N3) e3 d3 hj2 g1 ol_sing ⟨_, rfl, All2.set (F := fun x v => Rp.r K x I3 v) (Rp.up (a2.trans a3) y4) pb (rs_up a3 f3)⟩
    rw [u1]
    refine ⟨rfl, q I3 N4 σ ((a1.trans a2).trans a3) u2 ?_⟩
    rw [← hΓ, ← List.set_set]
    exact u3)
/-- xs.insert(i, e) -/
def rIns : V → List V → Hp → VK → Prop := fun x vs H Q => ∃ (l : Addr) (xs : List V) (i : Int) (y : V), x = .ref l ∧ vs = [.int i, y] ∧ H l = some (.lst xs) ∧ xs.length < sizeLine ∧ 0 ≤ i ∧ i < 2 ^ 63 ∧
  Q .non (upd H l (.lst (xs.take i.toNat ++ [y] ++ xs.drop i.toNat)))
theorem mt_ins {X : Cx} : MtR X "list.insert" rIns := mt_insert
theorem rs_ins {xs : List α} {us : List V} {I : Hp} {x : α} {v : V} (i : Nat) (h : Rs K xs I us) (r : Rp.r K x I v) : Rs K (xs.take i ++ [x] ++ xs.drop i) I (us.take i ++ [v] ++ us.drop i) :=
  ((h.take i).append (.cons r .nil)).append (h.drop i)
theorem rp_ins {xs : List α} {j : Nat} {te tb : TE} {m1 : Mn S Int} {m2 : Mn S α} {Γ' : List α → S → List Sl} (hj : ∀ s, (Γ s)[j]? = some (.ow (ol K xs))) (h1 : EM K te Γ m1) (h2 : EM K tb Γ m2) (hΓ : ∀ ys s, (Γ s).set j (.ow (ol K ys)) = Γ' ys s) :
    RP (tDrop (tBM K "list" rIns (tVar j) (tCons te (tCons tb tNil)))) Γ (mb m1 fun i => mb m2 fun x => mc (insOk xs.length i) (insL xs i x)) Γ' := fun s I F N σ e d D q => by
  obtain ⟨a, vs, g1, g2, g3⟩ := own_at e (hj s)
  refine ⟨_, g1, .inl ⟨rfl, vs, SqL.of (ov_l g2)⟩, h1 s I F N σ e d _ (R.sat_imp (sat_mb.mp q) fun i s1 q v I1 N1 a1 d1 e1 r1 => h2 s1 I1 F N1 σ e1 d1 _ (R.sat_imp (sat_mb.mp q) fun x s2 q w I2 N2 a2 d2 e2 r2 => ?_))⟩
  obtain ⟨c, q⟩ := sat_mc.mp q
  have c := of_decide_eq_true c
  obtain ⟨a', us, f1, f2, f3⟩ := own_at e2 (hj s2)
  rw [g1] at f1
  cases f1
  refine ⟨a, us, i, w, rfl, by rw [show v = V.int i from r1], ov_l f2, by rw [← f3.length]; exact sz16 (Nat.le_of_lt c.1), c.2.1, Int.lt_trans c.2.2 (by decide), ?_⟩
  obtain ⟨N3, x1, x2, x3⟩ := own_upd (P' := ol K (insL xs i x)) (us := us.take i.toNat ++ [w] ++ us.drop i.toNat) (vs := us) (I' := I2) (N' := N2) e2 d2 (hj s2) g1 ol_sing ⟨_, rfl, rs_ins i.toNat f3 r2⟩
  rw [x1]
  exact q I2 N3 σ (a1.trans a2) x2 (by rw [← hΓ]; exact x3)
end
section
variable {K : PySem.W.Frag} {α β γ δ : Type} [Rp α] [Rp β] [Rp γ] [Rp δ] {x : T4 α β γ δ}
theorem pr4_0 : Op2 (rIxT K) (pv K x) (pv K (0 : Int)) (pv K x.a) := o_pr fun I v ⟨a, v1, v2, v3, v4, h1, h2, h3, h4, h5, h6⟩ => ⟨a, _, v1, h1, h2, rfl, h3⟩
theorem pr4_1 : Op2 (rIxT K) (pv K x) (pv K (1 : Int)) (pv K x.b) := o_pr fun I v ⟨a, v1, v2, v3, v4, h1, h2, h3, h4, h5, h6⟩ => ⟨a, _, v2, h1, h2, rfl, h4⟩
theorem pr4_2 : Op2 (rIxT K) (pv K x) (pv K (2 : Int)) (pv K x.c) := o_pr fun I v ⟨a, v1, v2, v3, v4, h1, h2, h3, h4, h5, h6⟩ => ⟨a, _, v3, h1, h2, rfl, h5⟩
theorem pr4_3 : Op2 (rIxT K) (pv K x) (pv K (3 : Int)) (pv K x.d) := o_pr fun I v ⟨a, v1, v2, v3, v4, h1, h2, h3, h4, h5, h6⟩ => ⟨a, _, v4, h1, h2, rfl, h6⟩
end
theorem bt_range : bootBuiltins "range" = some (.type "range") := PyProof.Rows.boot_range
theorem cmb_mem {n : Int} {r : Nat} {x : Tu Int} : x ∈ cmb 0 n r ↔ x.l.length = r ∧ x.l.Pairwise (· < ·) ∧ ∀ i ∈ x.l, 0 ≤ i ∧ i < n := by
  have e0 : (n - 0).toNat = n.toNat := by rw [Int.sub_zero]
  constructor
  · intro h
    unfold cmb at h
    rw [e0] at h
    obtain ⟨c, hc, rfl⟩ := List.mem_map.mp h
    obtain ⟨h1, h2, h3⟩ := (RC.cm_mem _ _ _ _).mp hc
    refine ⟨by rw [List.length_map, h1], ?_, fun i hi => ?_⟩
    · show List.Pairwise _ (c.map _)
      rw [List.pairwise_map]
      exact h2.imp fun {a b} q => by omega
    · obtain ⟨k, hk, rfl⟩ := List.mem_map.mp hi
      have := h3 k hk
      omega
  · rintro ⟨h1, h2, h3⟩
    obtain ⟨l⟩ := x
    unfold cmb
    rw [e0]
    refine List.mem_map.mpr ⟨l.map Int.toNat, (RC.cm_mem _ _ _ _).mpr ⟨by rw [List.length_map]; exact h1, ?_, fun k hk => ?_⟩, ?_⟩
    · rw [List.pairwise_map]
      exact List.Pairwise.imp_of_mem (fun {a b} ha hb q => by have := h3 a ha; have := h3 b hb; omega) h2
    · obtain ⟨i, hi, rfl⟩ := List.mem_map.mp hk
      have := h3 i hi
      omega
    · show Tu.mk _ = Tu.mk l
      rw [List.map_map]
      congr 1
      conv => rhs; rw [← List.map_id l]
      refine List.map_congr_left fun i hi => ?_
      show (0 : Int) + ((i.toNat : Nat) : Int) = i
      have := h3 i hi
      omega
end Mir

/-! TcA: tuples that are known to have no dict: made, cut, counted -/
namespace TC
open PySem PySem.Spec PyProof.Rows L2
def TF (H : Hp) (a : Addr) (vs : List V) : Prop := ∃ o : Obj, H a = some (.frz o (.tup vs)) ∧ o.cls = .type "tuple" ∧ o.dict = none
theorem TF.sq {K : PySem.W.Frag} {H : Hp} {a : Addr} {vs : List V} (h : TF H a vs) : SqT K H a vs := let ⟨o, e, _⟩ := h; .inl (.inr ⟨o, e⟩)
section
variable {X : Cx}
/-- tuple(xs) of a list -/
def rTupF (K : PySem.W.Frag) : List V → Hp → VK → Prop := fun xs H Q => ∃ p ys, xs = [.ref p] ∧ SqL K H p ys ∧ ∀ (l : Addr) (o : Obj), H l = none → o.cls = .type "tuple" → o.dict = none → Q (.ref l) (upd H l (.frz o (.tup ys)))
theorem call_tupF : CallR X (.type "tuple") (rTupF X.K) := by
  intro pins s σ H xs us Q I r h
  obtain ⟨p, ys, rfl, hq, q⟩ := h
  obtain ⟨u, rfl, rx⟩ := vals1 r
  cases rx
  obtain ⟨its, r', pl, hz⟩ := I.list hq
  have hlen := r'.length
  refine call_tuple_list pl.isList (fun h' kp => ?_) (by simp only [List.size_toArray] <;> omega)
  have I1 : Inv X pins σ H { s with heap := h' } := I.kept (t' := s.toks) kp
  have I2 : Inv X pins σ (upd H h'.objs.size (.frz { cls := .type "tuple", data := .seq its.toArray } (.tup ys))) { s with heap := h'.push { cls := .type "tuple", data := .seq its.toArray } } :=
    I1.laid (t' := s.toks) (fun b o e => Heap.get?_push_of_some _ e) (Nat.le_refl _) (show ObjOk X.prog X.w _ _ _ (.frz _ (.tup ys)) from ⟨Heap.get?_push_size _ rfl, hz, its, r', IsTup.new _ _⟩)
  exact ⟨.ref h'.objs.size, _, I2, rfl, q _ _ (I1.hok.fresh (Nat.le_refl _)) rfl rfl⟩
/-- t[lo:hi] -/
def rSlF : V → Option Int → Option Int → Hp → VK → Prop := fun x lo hi H Q => ∃ a xs, x = .ref a ∧ TF H a xs ∧
  (HT.sIx xs.length 0 lo = 0 ∧ HT.sIx xs.length xs.length hi = xs.length → Q (.ref a) H) ∧
  (¬ (HT.sIx xs.length 0 lo = 0 ∧ HT.sIx xs.length xs.length hi = xs.length) → ∀ (p : Addr) (o : Obj), H p = none → o.cls = .type "tuple" → o.dict = none → Q (.ref p) (upd H p (.frz o (.tup (cutV xs lo hi)))))
theorem sl_tupF : SlR X rSlF := by
  intro pins s σ H x v vl vu lo hi sl Q I rx hs pl pu h
  obtain ⟨a, xs, rfl, hf, q1, q2⟩ := h
  have hx : SqT X.K H a xs := hf.sq
  obtain ⟨its, r, ht, hz⟩ := I.tuple hx
  have hlen : its.toArray.size = xs.length := by rw [List.size_toArray]; exact r.length.symm
  by_cases hw : HT.sIx xs.length 0 lo = 0 ∧ HT.sIx xs.length xs.length hi = xs.length
  · cases rx
    exact ⟨"tuple", _, PyProof.Rows.slot_tuple_getitem.lookup, ht.typeIs, getItem_tuple_whole ht hs pl pu (by rw [hlen]; exact hw) ⟨.ref a, H, I, rfl, q1 hw⟩⟩
  · cases rx
    refine ⟨"tuple", _, PyProof.Rows.slot_tuple_getitem.lookup, ht.typeIs, ?_⟩
    refine HT.getItem_tuple_cut ht hs pl pu (by rw [hlen]; exact hw) ?_ (by rw [hlen]; exact hz)
    rw [hlen]
    refine ⟨.ref s.heap.objs.size, _, I.laid (t' := s.toks) (o := .frz { cls := .type "tuple", data := .seq ((its.drop (HT.sIx xs.length 0 lo)).take (HT.sIx xs.length xs.length hi - HT.sIx xs.length 0 lo)).toArray } (.tup (cutV xs lo hi))) (fun b ob q => Heap.get?_push_of_some _ q) (Nat.le_refl _) ?_, rfl, q2 hw _ _ (I.hok.fresh (Nat.le_refl _)) rfl rfl⟩
    exact ⟨Heap.get?_push_size _ rfl, Nat.le_trans (cutV_length xs lo hi) hz, _, (r.drop (HT.sIx xs.length 0 lo)).take (HT.sIx xs.length xs.length hi - HT.sIx xs.length 0 lo), IsTup.new _ _⟩
/-- t.count(k) -/
def rCntT (K : PySem.W.Frag) : V → List V → Hp → VK → Prop := fun x xs H Q => ∃ (p : Addr) (ns : List Int) (k : Int), x = .ref p ∧ xs = [.int k] ∧ SqT K H p (ns.map V.int) ∧ Q (.int (ns.count k : Nat)) H
theorem mt_tcount : MtR X "tuple.count" (rCntT X.K) := by
  intro pins s σ H x xs v us Q I rx rxs h
  obtain ⟨p, ns, k, rfl, rfl, hs, q⟩ := h
  cases rx
  obtain ⟨u, rfl, ru⟩ := rxs.one
  obtain ⟨t, rfl⟩ := ru
  obtain ⟨its, rv, ⟨⟨cls, dd, data, sl⟩, ho, hc, n, hd⟩, hlen⟩ := I.tuple hs
  simp only at hc hd
  subst hc hd
  have hi := ints_of_vals rv
  refine call_meets PySem.F.slot_tuple_count ⟨_, ho, rfl⟩ PySem.F.entry_tuple_count (PySem.F.args_tuple_count_2 _ _)
    (SeqAt.tuple_countAt p its.toArray n dd sl (.int k t) (eqk k)) ⟨ho, fun y hy => (eqk_gives hi y (by simpa using hy)).at _ _, ?_⟩
  have ec : its.toArray.toList.countP (eqk k) = ns.count k := eqk_count hi
  refine ⟨.int (ns.count k : Nat), H, I.tok _, ⟨s.toks, ?_⟩, q⟩
  show Value.int ((its.toArray.toList.countP (eqk k) : Nat) : Int) s.toks = Value.int ((ns.count k : Nat) : Int) s.toks
  rw [ec]
def tBMT (r : V → List V → Hp → VK → Prop) (to : TE) (t : TA) : TE := fun σ H Q => to σ H fun x H1 => (∃ p vs, x = .ref p ∧ TF H1 p vs) ∧ t σ H1 fun xs H2 => r x xs H2 Q
theorem pe_bmT {o e : Expr} {es : List Expr} {to : TE} {t : TA} {name : Str} {apos cpos : Pos} {id : String} {r : V → List V → Hp → VK → Prop} (pa : PlainAttrs "tuple") (slot : Slot "tuple" name id) (hty : typeOf (.builtin id) = pure (.type "method_descriptor")) (hm : MtR X id r) (ho : PE X o to) (ha : PA X (e :: es) t)
    (hbase : attributeBase o name X.env (eval o X.env) = eval o X.env := by rfl)
    (hfew : ((backTo cpos (starEach (e :: es) X.env)).all (fun x => !x.1) && (backToKw cpos (keywordEach [] X.env)).all (fun x => x.1.isSome)
      && decide ((e :: es).length + ([] : List Keyword).length + (if ([] : List Keyword).isEmpty then 0 else 1) < 30)) = true := by rfl)
    (hline : (apos.endLine == cpos.line) = true := by rfl) (hs : starEach (e :: es) X.env = (false, eval e X.env) :: starEach es X.env := by rfl) (hplain : (backTo cpos (starEach es X.env)).any (·.1) = false := by rfl) :
    PE X (.Call (.Attribute o name apos) (e :: es) [] cpos) (tBMT r to t) := ⟨fun pins s σ H Q I h => by
  refine wpAny_Call_method_late hbase hfew hline rfl (thn (ho.run pins s σ H _ I h) fun v s1 ⟨x, H1, I1, r1, ⟨p, vs, ex, o1, hH, hc1, hd1⟩, q1⟩ => ?_)
  subst ex
  obtain rfl : v = Value.ref p := r1
  obtain ⟨hget, _⟩ := I1.hok p _ hH
  refine ⟨"tuple", id, pa, slot, hty, ⟨o1, hget, hc1⟩, fun a e2 => by cases e2; exact ⟨o1, hget, hd1⟩, ?_⟩
  have hA := ha.run cpos pins s1 σ H1 _ I1 q1
  rw [hs] at hA ⊢
  refine Calls.callWith_builtin (by show (false || (backTo cpos (starEach es X.env)).any (·.1)) = false; rw [hplain] <;> rfl) (Calls.evalArgs_plain ?_)
  exact thn hA fun us s2 ⟨vs2, H2, I2, r2, q2⟩ => hm pins s2 σ H2 (.ref p) vs2 (.ref p) us Q I2 rfl r2 q2⟩
/-- one of two -/
def tAlt (t1 t2 : TE) : TE := fun σ H Q => t1 σ H Q ∨ t2 σ H Q
theorem pe_altE {e : Expr} {t1 t2 : TE} (h1 : PE X e t1) (h2 : PE X e t2) : PE X e (tAlt t1 t2) := ⟨fun pins s σ H Q I h => h.elim (h1.run pins s σ H Q I) (h2.run pins s σ H Q I)⟩
def gAlt (g1 g2 : TG) : TG := fun v σ H Q => g1 v σ H Q ∨ g2 v σ H Q
theorem pg_altG {e : Expr} {g1 g2 : TG} (h1 : PG X e g1) (h2 : PG X e g2) : PG X e (gAlt g1 g2) := ⟨fun pins s σ H v u Q I r h => h.elim (h1.run pins s σ H v u Q I r) (h2.run pins s σ H v u Q I r)⟩
end
end TC

/-! Mir34: tuples that can be counted; lists of the store, read by any expression; lists of two kinds -/
namespace Mir
open PySem L2
/-- a tuple that is known to have no dict -/
structure Tc (α : Type) where
  l : List α
instance rpTc {α : Type} [Rp α] : Rp (Tc α) := ⟨fun K x H v => ∃ a vs, v = V.ref a ∧ TC.TF H a vs ∧ Rs K x.l H vs, fun e ⟨a, vs, h1, ⟨o, h2, h3⟩, h4⟩ => ⟨a, vs, h1, ⟨o, e _ _ h2, h3⟩, rs_up e h4⟩⟩
/-- a list, or such a tuple -/
structure Sv (α : Type) where
  t : Bool
  l : List α
instance rpSv {α : Type} [Rp α] : Rp (Sv α) := ⟨fun K x H v => match x.t with
  | true => Rp.r K (Tc.mk x.l) H v
  | false => Rp.r K x.l H v, fun {K x H H' v} e h => by
    revert h
    cases x.t with
    | true => exact fun h => Rp.up e h
    | false => exact fun h => Rp.up e h⟩
theorem tc_tu {K : PySem.W.Frag} {α : Type} [Rp α] {l : List α} {I : Hp} {v : V} (h : Rp.r K (Tc.mk l) I v) : Rp.r K (Tu.mk l) I v := by
  obtain ⟨a, vs, h1, h2, h3⟩ := h
  exact ⟨a, vs, h1, h2.sq, h3⟩
theorem sv_sq {K : PySem.W.Frag} {α : Type} [Rp α] {x : Sv α} {I : Hp} {v : V} (h : Rp.r K x I v) : Rp.r K (Sq.mk x.t x.l) I v := by
  obtain ⟨t, l⟩ := x
  cases t with
  | true => exact tc_tu h
  | false => exact h
instance dtSv {α : Type} [Rp α] [Dt α] : Dt (Sv α) where
  dt x := Dt.dt (Sq.mk x.t x.l)
  rel := fun {K x H v} h => Dt.rel (sv_sq h)
  lay := fun x => Dt.lay (Sq.mk x.t x.l)
  dep := Dt.dep (Sq α)
  dpt := fun x => Dt.dpt (Sq.mk x.t x.l)
  eqv := fun x y => by
    have := Dt.eqv (Sq.mk x.t x.l) (Sq.mk y.t y.l)
    obtain ⟨t, l⟩ := x
    obtain ⟨t', l'⟩ := y
    rw [this]
    cases t <;> cases t' <;> simp
theorem tf_ov {N I : Hp} {a : Addr} {vs : List V} (d : Dis N I) (h : TC.TF I a vs) : TC.TF (ov N I) a vs := let ⟨o, h1, h2⟩ := h; ⟨o, ex_ov d _ _ h1, h2⟩
section
variable {K : PySem.W.Frag} {S α β γ ρ ζ τ : Type} [SH S] [Rp α] [Rp β] [Rp γ] {Γ : S → List Sl} {Γ1 : List Sl} {te ta tb : TE} {tl : TA}
instance tpTc [Tp α] : Tp (Tc α) := ⟨fun k ⟨a, vs, h1, ⟨o, h2, h3⟩, h4⟩ => ⟨a, vs, h1, ⟨o, k _ _ h2 rfl, h3⟩, rs_tr k h4⟩⟩
theorem ep_svQ {x : Sv α} (h : EP te Γ1 (pv K x)) : EP te Γ1 (pv K (Sq.mk x.t x.l)) := fun I F N σ e d Q q => h I F N σ e d Q fun v I1 a1 d1 r1 => q v I1 a1 d1 (sv_sq r1)
theorem em_svQ {m : Mn S (Sv α)} (h : EM K te Γ m) : EM K te Γ (mb m fun x => mp (Sq.mk x.t x.l)) := fun s I F N σ e d Q q => h s I F N σ e d Q (R.sat_imp (sat_mb.mp q) fun x s1 q v I1 N1 a1 d1 e1 r1 => q v I1 N1 a1 d1 e1 (sv_sq r1))
theorem ep_svL {xs : List α} (h : EP te Γ1 (pv K xs)) : EP te Γ1 (pv K (Sv.mk false xs)) := fun I F N σ e d Q q => h I F N σ e d Q fun v I1 a1 d1 r1 => q v I1 a1 d1 r1
theorem em_svL {m : Mn S (List α)} (h : EM K te Γ m) : EM K te Γ (mb m fun x => mp (Sv.mk false x)) := fun s I F N σ e d Q q => h s I F N σ e d Q (R.sat_imp (sat_mb.mp q) fun x s1 q v I1 N1 a1 d1 e1 r1 => q v I1 N1 a1 d1 e1 r1)
theorem em_svT {m : Mn S (Tc α)} (h : EM K te Γ m) : EM K te Γ (mb m fun x => mp (Sv.mk true x.l)) := fun s I F N σ e d Q q => h s I F N σ e d Q (R.sat_imp (sat_mb.mp q) fun x s1 q v I1 N1 a1 d1 e1 r1 => q v I1 N1 a1 d1 e1 r1)
theorem mk_tf {I M : Hp} {p : Addr} {o : Obj} {vs : List V} (d : Dis M I) (hp : ov M I p = none) (h1 : o.cls = .type "tuple") (h2 : o.dict = none) : Ex I (upd I p (.frz o (.tup vs))) ∧ Dis M (upd I p (.frz o (.tup vs))) ∧ TC.TF (upd I p (.frz o (.tup vs))) p vs ∧ upd (ov M I) p (.frz o (.tup vs)) = ov M (upd I p (.frz o (.tup vs))) := by
  obtain ⟨g1, g2⟩ := ov_none hp
  exact ⟨Ex.new g2, dis_upd d g1, ⟨o, upd_same, h1, h2⟩, ov_upd g1⟩
/-- tuple(xs) -/
theorem em_tupF {m : Mn S (List α)} (h : EM K te Γ m) : EM K (tCB (TC.rTupF K) (tCons te tNil)) Γ (mb m fun xs => mp (Tc.mk xs)) := fun s I F N σ e d Q q =>
  h s I F N σ e d _ (R.sat_imp (sat_mb.mp q) fun xs s1 q v I1 N1 a1 d1 e1 ⟨a, vs, h1, h2, h3⟩ => by
    refine ⟨a, vs, by rw [h1], SqL.of (ex_ov d1 _ _ h2), fun p o hp o1 o2 => ?_⟩
    obtain ⟨m1, m2, m3, m4⟩ := mk_tf (vs := vs) d1 hp o1 o2
    rw [m4]
    exact q _ _ N1 (a1.trans m1) m2 (e1.up m1) ⟨p, vs, rfl, m3, rs_up m1 h3⟩)
def rSlSv (K : PySem.W.Frag) : V → Option Int → Option Int → Hp → VK → Prop := fun x lo hi H Q => rSlL K x lo hi H Q ∨ TC.rSlF x lo hi H Q
theorem sl_sv {X : Cx} : SlR X (rSlSv X.K) := SlR.or sl_list TC.sl_tupF
theorem sv_cut {xs : Sv α} {lo hi : Option Int} {I N : Hp} {v : V} {Q : VK} (d : Dis N I) (r : Rp.r K xs I v) (q : ∀ u I', Ex I I' → Dis N I' → Rp.r K (Sv.mk xs.t (cutL xs.l lo hi)) I' u → Q u (ov N I')) : rSlSv K v lo hi (ov N I) Q := by
  obtain ⟨t, l⟩ := xs
  cases t with
  | true =>
    obtain ⟨a, vs, h1, h2, h3⟩ := (show Rp.r K (Tc.mk l) I v from r)
    refine .inr ⟨a, vs, h1, tf_ov d h2, fun ⟨w1, w2⟩ => ?_, fun hw p o hp o1 o2 => ?_⟩
    · refine q _ I (Ex.refl I) d ?_
      show Rp.r K (Tc.mk (cutL l lo hi)) I (.ref a)
      rw [← h3.length] at w1 w2
      rw [cutL_whole w1 w2]
      exact ⟨a, vs, rfl, h2, h3⟩
    · obtain ⟨m1, m2, m3, m4⟩ := mk_tf (vs := cutV vs lo hi) d hp o1 o2
      rw [m4]
      exact q _ _ m1 m2 ⟨p, _, rfl, m3, rs_up m1 (rs_cut h3)⟩
  | false =>
    obtain ⟨a, vs, h1, h2, h3⟩ := (show Rp.r K l I v from r)
    refine .inl ⟨a, vs, h1, SqL.of (ex_ov d _ _ h2), fun p hp => ?_⟩
    obtain ⟨m1, m2, m3, m4⟩ := mk_list (K := K) (xs := cutL l lo hi) d hp (rs_cut h3)
    rw [m4]
    exact q _ _ m1 m2 m3
theorem em_slSv {xs : Sv α} {m1 m2 : Mn S (Option Int)} {t1 t2 : TO} (h : ∀ s, EP te (Γ s) (pv K xs)) (h1 : OPm t1 Γ m1) (h2 : OPm t2 Γ m2) : EM K (tSl (rSlSv K) te t1 t2) Γ (mb m1 fun lo => mb m2 fun hi => mp (Sv.mk xs.t (cutL xs.l lo hi))) := fun s I F N σ e d Q q =>
  h s I F N σ e d _ fun v I1 a1 d1 r1 => h1 s I1 F N σ (e.up a1) d1 _ (R.sat_imp (sat_mb.mp q) fun lo s2 q I2 N2 a2 d2 e2 => h2 s2 I2 F N2 σ e2 d2 _ (R.sat_imp (sat_mb.mp q) fun hi s3 q I3 N3 a3 d3 e3 =>
    sv_cut d3 (Rp.up (a2.trans a3) r1) fun u I4 a4 d4 r4 => q u I4 N3 (((a1.trans a2).trans a3).trans a4) d4 (e3.up a4) r4))
/-- x.count(k) -/
def tCnt (K : PySem.W.Frag) (te tk : TE) : TE := TC.tAlt (tBM K "list" (rCntI K) te (tCons tk tNil)) (TC.tBMT (TC.rCntT K) te (tCons tk tNil))
theorem em_cnt {xs : Sv Int} {m : Mn S Int} (h : ∀ s, EP te (Γ s) (pv K xs)) (hk : EM K ta Γ m) : EM K (tCnt K te ta) Γ (mb m fun k => mp ((xs.l.count k : Nat) : Int)) := fun s I F N σ e d Q q => by
  obtain ⟨t, l⟩ := xs
  cases t with
  | true =>
    refine .inr (h s I F N σ e d _ fun v I1 a1 d1 r1 => ?_)
    obtain ⟨a, vs, h1, h2, h3⟩ := (show Rp.r K (Tc.mk l) I1 v from r1)
    refine ⟨⟨a, vs, h1, tf_ov d1 h2⟩, hk s I1 F N σ (e.up a1) d1 _ (R.sat_imp (sat_mb.mp q) fun k s2 q w I2 N2 a2 d2 e2 r2 => ?_)⟩
    refine ⟨a, l, k, h1, by rw [show w = V.int k from r2], ?_, q _ I2 N2 (a1.trans a2) d2 e2 rfl⟩
    have := h2.sq (K := K)
    rw [← rs_int h3]
    exact sqt_ov d2 (sqt_up a2 this)
  | false =>
    refine .inl (h s I F N σ e d _ fun v I1 a1 d1 r1 => ?_)
    obtain ⟨a, vs, h1, h2, h3⟩ := (show Rp.r K l I1 v from r1)
    subst h1
    refine ⟨.inl ⟨rfl, vs, SqL.of (ex_ov d1 _ _ h2)⟩, hk s I1 F N σ (e.up a1) d1 _ (R.sat_imp (sat_mb.mp q) fun k s2 q w I2 N2 a2 d2 e2 r2 => ?_)⟩
    refine ⟨a, l, k, rfl, by rw [show w = V.int k from r2], ?_, q _ I2 N2 (a1.trans a2) d2 e2 rfl⟩
    rw [← rs_int h3]
    exact SqL.of (ex_ov d2 _ _ (a2 _ _ h2))
/-- a, b, .. = a list or a tuple -/
theorem rp_unpSq {m : Mn S (Sq Int)} {Γ' : List Int → S → List Sl} {n : Nat} (js : List Nat) (h : EM K te Γ m) (hj : ∀ s, asgOk (Γ s) js n) (hΓ : ∀ w s, setG (Γ s) js ((List.range n).map fun i => .im (pv K (w.getD i 0))) = Γ' w s) : RP (tAsg te (TC.gAlt (gTup K n (gNames js)) (gLst K n (gNames js)))) Γ (mb m fun w => mc (decide (w.l.length = n)) w.l) Γ' := fun s I F N σ e d D q =>
  h s I F N σ e d _ (R.sat_imp (sat_mb.mp q) fun w0 s1 q v I1 N1 a1 d1 e1 r1 => by
    obtain ⟨t, w⟩ := w0
    obtain ⟨c, q⟩ := sat_mc.mp q
    have cw : w.length = n := of_decide_eq_true c
    have key : ∀ vs : List V, vs.length = n → Rs K w I1 vs → gNames js vs σ (ov N1 I1) D.nx := fun vs hv h3 => by
      refine gNames_ok js vs σ _ _ (hv.trans (hj s1).1.symm) ?_
      refine q I1 N1 _ a1 d1 ?_
      rw [← hΓ]
      have e3 : All2 (fun (p : PV) v => p.r I1 v) ((List.range n).map fun i => pv K (w.getD i 0)) vs := by
        have hw : (List.range n).map (fun i => pv K (w.getD i 0)) = w.map (pv K) := by
          apply List.ext_getElem
          · simp [cw]
          · intro i g1 g2
            simp only [List.length_map] at g2
            simp [List.getD_eq_getElem?_getD, List.getElem?_eq_getElem g2]
        rw [hw]
        exact of_rs h3
      have e4 : EnvOk I1 N1 N1 (vs.map some) ((List.range n).map fun i => Sl.im (pv K (w.getD i 0))) := by
        have := EnvOk.ims (I := I1) (F := N1) e3
        rw [List.map_map] at this
        exact this
      exact EnvG.takes e1 e4 (by simp [(hj s1).1]) (hj s1).2.1 (hj s1).2.2 (fun c hc => by
        obtain ⟨i, _, rfl⟩ := List.mem_map.mp hc
        exact fun q => nomatch q)
    cases t with
    | true =>
      obtain ⟨a, vs, h1, h2, h3⟩ := (show Rp.r K (Tu.mk w) I1 v from r1)
      have hv : vs.length = n := by rw [← h3.length]; exact cw
      exact .inl ⟨a, vs, h1, sqt_ov d1 h2, hv, key vs hv h3⟩
    | false =>
      obtain ⟨a, vs, h1, h2, h3⟩ := (show Rp.r K w I1 v from r1)
      have hv : vs.length = n := by rw [← h3.length]; exact cw
      exact .inr ⟨a, vs, h1, SqL.of (ex_ov d1 _ _ h2), hv, key vs hv h3⟩)
/-! ### lists of the store by an expression -/
/-- a list that can be read where it stands -/
def EVL (K : PySem.W.Frag) (te : TE) (Γ : S → List Sl) (m : Mn S (List α)) : Prop := ∀ (s : S) (I F N : Hp) (σ : L2.St), EnvG s I F N σ (Γ s) → Dis N I → ∀ Q : VK,
  (m s).sat (fun xs s' => ∀ v I' N', Ex I I' → Dis N' I' → EnvG s' I' F N' σ (Γ s') → (∃ a vs, v = V.ref a ∧ ov N' I' a = some (.lst vs) ∧ Rs K xs I' vs) → Q v (ov N' I')) → te σ (ov N I) Q
theorem ov_ext {N I J : Hp} (d : Dis N I) (h : Ex (ov N I) J) : ∃ I2, J = ov N I2 ∧ Ex I I2 ∧ Dis N I2 := by
  refine ⟨fun a => match N a with | some _ => none | none => J a, ?_, fun a o e => ?_, fun a => ?_⟩
  · funext a
    cases q : N a with
    | some o =>
      rw [ov_l q]
      exact h a o (ov_l q)
    | none =>
      rw [ov_r q]
      show J a = match N a with | some _ => none | none => J a
      rw [q]
  · show (match N a with | some _ => none | none => J a) = some o
    rw [d.some_r e]
    exact h a o (ex_ov d a o e)
  · show N a = none ∨ (match N a with | some _ => none | none => J a) = none
    cases q : N a with
    | some o => exact .inr rfl
    | none => exact .inl rfl
/-- a built-in that answers with a scalar -/
theorem em_cbV [Sc β] {r : List V → Hp → VK → Prop} {m : Mn S (List α)} {f : List α → β} (h : EVL K te Γ m) (c : ∀ xs, Cb r [pv K xs] (pv K (f xs))) : EM K (tCB r (tCons te tNil)) Γ (mb m fun xs => mp (f xs)) := fun s I F N σ e d Q q =>
  h s I F N σ e d _ (R.sat_imp (sat_mb.mp q) fun xs s1 q v I1 N1 a1 d1 e1 ⟨a, vs, h1, h2, h3⟩ => by
    have hr : Rp.r K xs (ov N1 I1) v := ⟨a, vs, h1, h2, rs_up (ex_ov d1) h3⟩
    have := c xs (ov N1 I1) emp [v] Q (fun _ => .inl rfl) (.cons hr .nil) fun u J x1 _ hu => by
      obtain ⟨I2, e2, x2, d2⟩ := ov_ext d1 x1
      subst e2
      have hu2 : u = Sc.s (f xs) := Sc.eq.mp hu
      exact q u I2 N1 (a1.trans x2) d2 (e1.up x2) (Sc.eq.mpr hu2)
    exact this)
/-- an operator with something that no heap is asked for -/
theorem em_opV [Sc γ] {r : R2} {m : Mn S (List α)} {y : β} {f : List α → γ} (h : EVL K te Γ m) (h2 : ∀ s, EP tb (Γ s) (pv K y)) (o : ∀ xs, Op2 r (pv K xs) (pv K y) (pv K (f xs))) : EM K (tOp r te tb) Γ (mb m fun xs => mp (f xs)) := fun s I F N σ e d Q q =>
  h s I F N σ e d _ (R.sat_imp (sat_mb.mp q) fun xs s1 q v I1 N1 a1 d1 e1 ⟨a, vs, h1, h3, h4⟩ => h2 s1 I1 F N1 σ e1 d1 _ fun w I2 a2 d2 r2 => by
    have hx : ov N1 I2 a = some (.lst vs) := by
      cases q1 : N1 a with
      | some o => rw [ov_l q1] at h3 ⊢; exact h3
      | none => rw [ov_r q1] at h3 ⊢; exact a2 _ _ h3
    have hr : Rp.r K xs (ov N1 I2) v := ⟨a, vs, h1, hx, rs_up (a2.trans (ex_ov d2)) h4⟩
    have := o xs (ov N1 I2) emp v w Q (fun _ => .inl rfl) hr (Rp.up (ex_ov d2) r2) fun u J x1 _ hu => by
      obtain ⟨I3, e3, x3, d3⟩ := ov_ext d2 x1
      subst e3
      have hu2 : u = Sc.s (f xs) := Sc.eq.mp hu
      exact q u I3 N1 ((a1.trans a2).trans x3) d3 ((e1.up a2).up x3) (Sc.eq.mpr hu2)
    exact this)
theorem eo_slV {m : Mn S (List α)} {lo hi : Option Int} {t1 t2 : TO} (h : EVL K te Γ m) (h1 : ∀ s, OPa t1 (Γ s) lo) (h2 : ∀ s, OPa t2 (Γ s) hi) : EO (tSl (rSlL K) te t1 t2) Γ (mb m fun xs => mp (cutL xs lo hi)) (rOw (ol K)) := fun s I F N σ e d Q q =>
  h s I F N σ e d _ (R.sat_imp (sat_mb.mp q) fun xs s1 q v I1 N1 a1 d1 e1 ⟨a, vs, g1, g2, g3⟩ => h1 s1 I1 F N1 σ e1 d1 _ fun I2 a2 d2 => h2 s1 I2 F N1 σ (e1.up a2) d2 _ fun I3 a3 d3 => by
    have hx : ov N1 I3 a = some (.lst vs) := by
      cases q1 : N1 a with
      | some o => rw [ov_l q1] at g2 ⊢; exact g2
      | none => rw [ov_r q1] at g2 ⊢; exact a3 _ _ (a2 _ _ g2)
    refine ⟨a, vs, g1, SqL.of hx, fun p hp => ?_⟩
    exact q _ _ I3 N1 ((a1.trans a2).trans a3) ((e1.up a2).up a3) (new_list d3 hp (rs_up (a2.trans a3) (rs_cut g3))))
theorem eo_listV {m : Mn S (List α)} (h : EVL K te Γ m) : EO (tCB (rListOf K) (tCons te tNil)) Γ m (rOw (ol K)) := fun s I F N σ e d Q q =>
  h s I F N σ e d _ (R.sat_imp q fun xs s1 q v I1 N1 a1 d1 e1 ⟨a, vs, h1, h2, h3⟩ => ⟨a, vs, by rw [h1], .inl (SqL.of h2), fun l hl => q _ _ I1 N1 a1 e1 (new_list d1 hl h3)⟩)
theorem ev_own {xs : List α} {j : Nat} (hj : ∀ s, (Γ s)[j]? = some (.ow (ol K xs))) : EVL K (tVar j) Γ (mp xs : Mn S (List α)) := fun s I F N σ e d Q q => by
  obtain ⟨a, vs, h1, h2, h3⟩ := own_at e (hj s)
  exact ⟨_, h1, q _ I N (Ex.refl I) d e ⟨a, vs, rfl, ov_l h2, h3⟩⟩
theorem eo_backV {m : Mn S (List α)} (h : EVL K te Γ m) : EO (tRevL K te) Γ (mb m fun xs => mp xs.reverse) (rOw (ol K)) := fun s I F N σ e d Q q =>
  h s I F N σ e d _ (R.sat_imp (sat_mb.mp q) fun xs s1 q v I1 N1 a1 d1 e1 ⟨a, vs, h1, h2, h3⟩ => ⟨a, vs, h1, SqL.of h2, fun p hp => q _ _ I1 N1 a1 e1 (new_list d1 hp h3.reverse)⟩)
end
section
variable {K : PySem.W.Frag} {α β γ : Type} [Rp α] [Rp β] [Rp γ] [PyT α] {Γ : Sto K → List Sl} {te ta tb : TE}
theorem ev_ref {m : Mn (Sto K) Ref} (h : EM K te Γ m) : EVL K te Γ (mb m fun r => mldT α r) := fun s I F N σ e d Q q =>
  h s I F N σ e d _ (R.sat_imp (sat_mb.mp q) fun r s1 q v I1 N1 a1 d1 e1 r1 => by
    obtain ⟨ps, xs, h1, h2, q⟩ := sat_mldT.mp q
    obtain ⟨vs, g1, g2⟩ := sto_lst e1 h1
    exact q v I1 N1 a1 d1 e1 ⟨r.a, vs, r1, ov_l g1, decs_rel h2 g2⟩)
/-- r[i] = e, r any expression -/
theorem rp_setRM {m : Mn (Sto K) α} {m1 : Mn (Sto K) Ref} {m2 : Mn (Sto K) Int} (h : EM K te Γ m) (ha : EM K ta Γ m1) (hb : EM K tb Γ m2) (hΓ : ∀ s s', Γ s = Γ s') : RP (tAsg te (gSub ta tb rSetL)) Γ (mb m fun x => mb m1 fun r => mb m2 fun i => mb (mldL r) fun xs => mb (mo (ixN xs.length i)) fun k => mput r (.lst (xs.set k (PyT.enc x)))) fun _ => Γ := fun s I F N σ e d D q =>
  h s I F N σ e d _ (R.sat_imp (sat_mb.mp q) fun x s1 q v I1 N1 a1 d1 e1 r1 => ha s1 I1 F N1 σ e1 d1 _ (R.sat_imp (sat_mb.mp q) fun r s2 q v0 I2 N2 a2 d2 e2 r2 => hb s2 I2 F N2 σ e2 d2 _ (R.sat_imp (sat_mb.mp q) fun i s3 q w I3 N3 a3 d3 e3 r3 => by
    obtain ⟨xs, h1, q⟩ := sat_mldL.mp (sat_mb.mp q)
    obtain ⟨k, h2, q⟩ := sat_mo.mp (sat_mb.mp q)
    obtain ⟨o0, _, q⟩ := sat_mput.mp q
    obtain ⟨vs, g1, g2⟩ := sto_lst e3 h1
    refine ⟨r.a, vs, i, k, r2, r3, ov_l g1, by rw [← rels_len g2]; exact h2, ?_⟩
    obtain ⟨N4, x1, x2, x3⟩ := e3.sput d3 h1 (o' := .lst (xs.set k (PyT.enc x))) (u' := .lst (vs.set k v)) ⟨_, rfl, rels_iff.mpr (All2.set (F := fun x v => Rp.r K x I3 v) (Py.up (a2.trans a3) (PyT.rel r1)) k (rels_iff.mp g2))⟩
    rw [x1]
    exact q I3 N4 σ ((a1.trans a2).trans a3) x2 (ecast (hΓ s3 _) x3))))
/-- a, b, .. = a list of the store -/
theorem rp_unpR {m : Mn (Sto K) Ref} {Γ' : List Int → Sto K → List Sl} {n : Nat} (js : List Nat) (h : EM K te Γ m) (hj : ∀ s, asgOk (Γ s) js n) (hΓ : ∀ w s, setG (Γ s) js ((List.range n).map fun i => .im (pv K (w.getD i 0))) = Γ' w s) : RP (tAsg te (gLst K n (gNames js))) Γ (mb m fun r => mb (mldT Int r) fun w => mc (decide (w.length = n)) w) Γ' := fun s I F N σ e d D q =>
  h s I F N σ e d _ (R.sat_imp (sat_mb.mp q) fun r s1 q v I1 N1 a1 d1 e1 r1 => by
    obtain ⟨ps, w, g1, g2, q⟩ := sat_mldT.mp (sat_mb.mp q)
    obtain ⟨c, q⟩ := sat_mc.mp q
    have cw : w.length = n := of_decide_eq_true c
    obtain ⟨vs, h2, h3⟩ := sto_lst e1 g1
    have h3 : Rs K w I1 vs := decs_rel g2 h3
    have hv : vs.length = n := by rw [← h3.length]; exact cw
    refine ⟨r.a, vs, r1, SqL.of (ov_l h2), hv, gNames_ok js vs σ _ _ (hv.trans (hj s1).1.symm) ?_⟩
    refine q I1 N1 _ a1 d1 ?_
    rw [← hΓ]
    have e3 : All2 (fun (p : PV) v => p.r I1 v) ((List.range n).map fun i => pv K (w.getD i 0)) vs := by
      have hw : (List.range n).map (fun i => pv K (w.getD i 0)) = w.map (pv K) := by
        apply List.ext_getElem
        · simp [cw]
        · intro i g1 g2
          simp only [List.length_map] at g2
          simp [List.getD_eq_getElem?_getD, List.getElem?_eq_getElem g2]
      rw [hw]
      exact of_rs h3
    have e4 : EnvOk I1 N1 N1 (vs.map some) ((List.range n).map fun i => Sl.im (pv K (w.getD i 0))) := by
      have := EnvOk.ims (I := I1) (F := N1) e3
      rw [List.map_map] at this
      exact this
    exact EnvG.takes e1 e4 (by simp [(hj s1).1]) (hj s1).2.1 (hj s1).2.2 (fun c hc => by
      obtain ⟨i, _, rfl⟩ := List.mem_map.mp hc
      exact fun q => nomatch q))
end
/-! ### lists of two kinds -/
structure L2h (α β : Type) where
  a : α
  b : β
instance rpL2h {α β : Type} [Rp α] [Rp β] : Rp (L2h α β) := ⟨fun K x H v => ∃ p v1 v2, v = V.ref p ∧ H p = some (.lst [v1, v2]) ∧ Rp.r K x.a H v1 ∧ Rp.r K x.b H v2,
  fun e ⟨p, v1, v2, h1, h2, h3, h4⟩ => ⟨p, v1, v2, h1, e _ _ h2, Rp.up e h3, Rp.up e h4⟩⟩
section
variable {K : PySem.W.Frag} {S α β γ ζ : Type} [SH S] [Rp α] [Rp β] [Rp γ] {Γ : S → List Sl}
theorem em_l2h {ta : TA} {m : Mn S ζ} {f : ζ → L2h α β} (h : AM ta Γ m fun z => [pv K (f z).a, pv K (f z).b]) : EM K (tLst ta) Γ (mb m fun z => mp (f z)) := fun s I F N σ e d Q q =>
  h s I F N σ e d _ (R.sat_imp (sat_mb.mp q) fun z s1 q vs I1 N1 a1 d1 e1 r1 => by
    obtain ⟨v1, _, rfl, r5, r⟩ := all2_c r1
    obtain ⟨v2, _, rfl, r2, r⟩ := all2_c r
    cases all2_n r
    refine ⟨sz2 (by show 2 ≤ 1000; decide), fun p hp => ?_⟩
    obtain ⟨h1, h2⟩ := ov_none hp
    have ex : Ex I1 (upd I1 p (.lst [v1, v2])) := Ex.new h2
    rw [ov_upd h1]
    exact q _ _ N1 (a1.trans ex) (dis_upd d1 h1) (e1.up ex) ⟨p, v1, v2, rfl, upd_same, Rp.up ex r5, Rp.up ex r2⟩)
theorem rp_unp2h {te : TE} {m : Mn S (L2h α β)} {Γ' : L2h α β → S → List Sl} (js : List Nat) (h : EM K te Γ m) (hj : ∀ s, asgOk (Γ s) js 2) (hΓ : ∀ w s, setG (Γ s) js [.im (pv K w.a), .im (pv K w.b)] = Γ' w s) : RP (tAsg te (gLst K 2 (gNames js))) Γ m Γ' := fun s I F N σ e d D q =>
  h s I F N σ e d _ (R.sat_imp q fun w s1 q v I1 N1 a1 d1 e1 ⟨a, v1, v2, h1, h2, h3, h4⟩ => by
    subst h1
    refine ⟨a, [v1, v2], rfl, SqL.of (ex_ov d1 _ _ h2), rfl, gNames_ok js _ σ _ _ (hj s1).1.symm ?_⟩
    refine q I1 N1 _ a1 d1 ?_
    rw [← hΓ]
    have e4 : EnvOk I1 N1 N1 ([v1, v2].map some) [.im (pv K w.a), .im (pv K w.b)] := .im h3 (.im h4 .nil)
    exact EnvG.takes e1 e4 (by simp [(hj s1).1]) (hj s1).2.1 (hj s1).2.2 (fun c hc => by
      simp only [List.mem_cons, List.not_mem_nil, or_false] at hc
      rcases hc with rfl | rfl <;> exact fun q => nomatch q))
theorem rt_ifE {ρ : Type} {Ret : RetT ρ} {tt : TT} {ta tb : TE} {Γr : S → List Sl} {m0 : Mn S Bool} {m1 m2 : Mn S ρ} (h : TM tt Γ m0) (h1 : RT Ret (tRet ta) Γ m1 Γr) (h2 : RT Ret (tRet tb) Γ m2 Γr) : RT Ret (tRet (tIf tt ta tb)) Γ (mb m0 fun b => mi b m1 m2) Γr := fun s I F N σ e d D q =>
  h s I F N σ e d _ (R.sat_imp (sat_mb.mp q) fun b s1 q I1 N1 a1 d1 e1 => by
    cases b with
    | true => exact h1 s1 I1 F N1 σ e1 d1 D (R.sat_imp q fun x s2 q v H2 I2 N2 σ2 a2 => q v H2 I2 N2 σ2 (a1.trans a2))
    | false => exact h2 s1 I1 F N1 σ e1 d1 D (R.sat_imp q fun x s2 q v H2 I2 N2 σ2 a2 => q v H2 I2 N2 σ2 (a1.trans a2)))
end
end Mir

/-! Num1: numbers by a prime; powers, inverses; sums by powers of a place -/
namespace Num
/-! ### alike by p -/
def Cg (p a b : Int) : Prop := ∃ k, a = b + p * k
section
variable {p a b c d : Int}
theorem Cg.refl : Cg p a a := ⟨0, by grind⟩
theorem Cg.of_eq (h : a = b) : Cg p a b := ⟨0, by grind⟩
theorem Cg.symm (h : Cg p a b) : Cg p b a := by obtain ⟨k, h⟩ := h; exact ⟨-k, by grind⟩
theorem Cg.trans (h : Cg p a b) (g : Cg p b c) : Cg p a c := by
  obtain ⟨k, h⟩ := h; obtain ⟨l, g⟩ := g
  exact ⟨k + l, by grind⟩
theorem Cg.add (h : Cg p a b) (g : Cg p c d) : Cg p (a + c) (b + d) := by
  obtain ⟨k, h⟩ := h; obtain ⟨l, g⟩ := g
  exact ⟨k + l, by grind⟩
theorem Cg.sub (h : Cg p a b) (g : Cg p c d) : Cg p (a - c) (b - d) := by
  obtain ⟨k, h⟩ := h; obtain ⟨l, g⟩ := g
  exact ⟨k - l, by grind⟩
theorem Cg.mul (h : Cg p a b) (g : Cg p c d) : Cg p (a * c) (b * d) := by
  obtain ⟨k, h⟩ := h; obtain ⟨l, g⟩ := g
  exact ⟨b * l + d * k + p * k * l, by grind⟩
theorem Cg.emod : Cg p (a % p) a := ⟨-(a / p), by have := Int.mul_ediv_add_emod a p; grind⟩
theorem Cg.mod (h : Cg p a b) : Cg p (a % p) b := Cg.emod.trans h
theorem Cg.em (h : Cg p a b) : a % p = b % p := by
  obtain ⟨k, h⟩ := h
  rw [h, Int.add_mul_emod_self_left]
theorem Cg.of_em (h : a % p = b % p) : Cg p a b := (Cg.emod.symm.trans (Cg.of_eq h)).trans Cg.emod
theorem Cg.eq (h : Cg p a b) (a0 : 0 ≤ a) (a1 : a < p) (b0 : 0 ≤ b) (b1 : b < p) : a = b := by
  have := h.em
  rwa [Int.emod_eq_of_lt a0 a1, Int.emod_eq_of_lt b0 b1] at this
theorem Cg.pow (h : Cg p a b) : ∀ n : Nat, Cg p (a ^ n) (b ^ n)
  | 0 => by rw [Int.pow_zero, Int.pow_zero]; exact Cg.refl
  | n + 1 => by rw [Int.pow_succ, Int.pow_succ]; exact (Cg.pow h n).mul h
theorem cg_zero : Cg p a 0 ↔ p ∣ a := ⟨fun ⟨k, h⟩ => ⟨k, by grind⟩, fun ⟨k, h⟩ => ⟨k, by grind⟩⟩
theorem Cg.sub_zero (h : Cg p (a - b) 0) : Cg p a b := by
  obtain ⟨k, h⟩ := h
  exact ⟨k, by grind⟩
end
/-! ### primes -/
def Pm (p : Int) : Prop := 2 ≤ p ∧ ∀ d, 2 ≤ d → d < p → ¬ d ∣ p
theorem Pm.pos {p : Int} (h : Pm p) : 0 < p := by have := h.1; omega
theorem Pm.gcd {p a : Int} (h : Pm p) (ha : ¬ Cg p a 0) : Int.gcd p a = 1 := by
  have h1 := Int.gcd_dvd_left (a := p) (b := a)
  have h2 := Int.gcd_dvd_right (a := p) (b := a)
  have h3 := Int.le_of_dvd h.pos h1
  have h4 : 0 < Int.gcd p a := Int.gcd_pos_of_ne_zero_left _ (by have := h.1; omega)
  by_cases e : Int.gcd p a = 1
  · exact e
  · exfalso
    by_cases e2 : (Int.gcd p a : Int) < p
    · exact h.2 _ (by omega) e2 h1
    · rw [show (Int.gcd p a : Int) = p by omega] at h2
      exact ha (cg_zero.mpr h2)
/-- of a product, one part -/
theorem Pm.mul {p a b : Int} (h : Pm p) (ha : ¬ Cg p a 0) (hb : ¬ Cg p b 0) : ¬ Cg p (a * b) 0 := fun c => by
  have c := cg_zero.mp c
  have g := h.gcd ha
  refine hb (cg_zero.mpr (Int.natAbs_dvd_natAbs.mp (Nat.Coprime.dvd_of_dvd_mul_left (m := a.natAbs) g ?_)))
  rw [← Int.natAbs_mul]
  exact Int.natAbs_dvd_natAbs.mpr c
theorem Pm.can {p a b c : Int} (h : Pm p) (ha : ¬ Cg p a 0) (e : Cg p (a * b) (a * c)) : Cg p b c := by
  by_cases q : Cg p (b - c) 0
  · exact q.sub_zero
  · exact absurd (by obtain ⟨k, e⟩ := e; exact ⟨k, by grind⟩) (h.mul ha q)
/-! ### Pascal, and powers by a prime -/
def bin : Nat → Nat → Nat
  | _, 0 => 1
  | 0, _ + 1 => 0
  | n + 1, k + 1 => bin n k + bin n (k + 1)
theorem bin_0 {n : Nat} : bin n 0 = 1 := by cases n <;> rfl
theorem bin_s {n k : Nat} : bin (n + 1) (k + 1) = bin n k + bin n (k + 1) := rfl
theorem bin_big : ∀ {n k : Nat}, n < k → bin n k = 0
  | 0, k + 1, _ => rfl
  | n + 1, k + 1, h => by rw [bin_s, bin_big (show n < k by omega), bin_big (show n < k + 1 by omega)]
theorem bin_self : ∀ {n : Nat}, bin n n = 1
  | 0 => rfl
  | n + 1 => by rw [bin_s, bin_self, bin_big (Nat.lt_succ_self n)]
theorem bin_step : ∀ {n k : Nat}, (k + 1) * bin n (k + 1) = (n - k) * bin n k
  | 0, k => by rw [show bin 0 (k + 1) = 0 from rfl, Nat.zero_sub, Nat.zero_mul, Nat.mul_zero]
  | n + 1, 0 => by
    have ih := bin_step (n := n) (k := 0)
    rw [bin_s]
    simp only [bin_0, Nat.sub_zero, Nat.mul_one, Nat.zero_add, Nat.one_mul] at ih ⊢
    omega
  | n + 1, k + 1 => by
    have i1 := bin_step (n := n) (k := k)
    have i2 := bin_step (n := n) (k := k + 1)
    rw [bin_s, bin_s (n := n) (k := k)]
    by_cases h : k + 1 ≤ n
    · obtain ⟨m, rfl⟩ : ∃ m, n = m + (k + 1) := ⟨n - (k + 1), by omega⟩
      rw [show m + (k + 1) - k = m + 1 by omega] at i1
      rw [show m + (k + 1) - (k + 1) = m by omega] at i2
      rw [show m + (k + 1) + 1 - (k + 1) = m + 1 by omega]
      grind
    · have e : bin n (k + 1) = 0 := bin_big (by omega)
      have e2 : bin n (k + 1 + 1) = 0 := bin_big (by omega)
      rw [e, e2]
      by_cases h2 : n = k
      · subst h2
        rw [show n + 1 - (n + 1) = 0 by omega]
        simp
      · rw [bin_big (show n < k by omega)]
        simp
theorem bin_top {n k : Nat} : (k + 1) * bin (n + 1) (k + 1) = (n + 1) * bin n k := by
  have h := bin_step (n := n) (k := k)
  rw [bin_s, Nat.mul_add, h]
  by_cases q : k ≤ n
  · rw [← Nat.add_mul, show k + 1 + (n - k) = n + 1 by omega]
  · rw [bin_big (show n < k by omega)]
    simp
/-- 1 and the sum of all powers -/
def bsum (n : Nat) (a : Int) : Nat → Int
  | 0 => 1
  | k + 1 => bsum n a k + bin n (k + 1) * a ^ (k + 1)
theorem bsum_s {n : Nat} {a : Int} : ∀ {k : Nat}, bsum (n + 1) a (k + 1) = bsum n a (k + 1) + a * bsum n a k
  | 0 => by
    show 1 + ((bin n 0 + bin n 1 : Nat) : Int) * a ^ 1 = 1 + (bin n 1 : Int) * a ^ 1 + a * 1
    rw [bin_0]
    grind
  | k + 1 => by
    have ih := bsum_s (n := n) (a := a) (k := k)
    show bsum (n + 1) a (k + 1) + ((bin n (k + 1) + bin n (k + 2) : Nat) : Int) * a ^ (k + 2) = bsum n a (k + 1) + (bin n (k + 2) : Int) * a ^ (k + 2) + a * (bsum n a k + (bin n (k + 1) : Int) * a ^ (k + 1))
    rw [ih]
    grind
theorem bsum_all {a : Int} : ∀ {n : Nat}, bsum n a n = (1 + a) ^ n
  | 0 => by rw [Int.pow_zero]; rfl
  | n + 1 => by
    rw [bsum_s]
    have e : bsum n a (n + 1) = bsum n a n := by
      show bsum n a n + (bin n (n + 1) : Int) * _ = _
      rw [bin_big (Nat.lt_succ_self n)]
      simp
    rw [e, bsum_all, Int.pow_succ]
    grind
theorem Pm.bin {p : Nat} (h : Pm p) {k : Nat} (h0 : 0 < k) (h1 : k < p) : Cg p (bin p k) 0 := by
  obtain ⟨m, rfl⟩ : ∃ m, p = m + 1 := ⟨p - 1, by omega⟩
  obtain ⟨i, rfl⟩ : ∃ i, k = i + 1 := ⟨k - 1, by omega⟩
  have e := bin_top (n := m) (k := i)
  by_cases q : Cg ((m + 1 : Nat) : Int) (Num.bin (m + 1) (i + 1)) 0
  · exact q
  · refine absurd ?_ (h.mul (a := ((i + 1 : Nat) : Int)) ?_ q)
    · exact ⟨Num.bin m i, by rw [← Int.natCast_mul, e, Int.natCast_mul]; grind⟩
    · intro c
      have := c.eq (by omega) (by omega) (by omega) (by omega)
      omega
theorem Pm.bsum {p : Nat} (h : Pm p) {a : Int} : ∀ {k : Nat}, k < p → Cg p (bsum p a k) 1
  | 0, _ => Cg.refl
  | k + 1, hk => by
    have := (h.bin (Nat.succ_pos k) hk).mul (Cg.refl (p := p) (a := a ^ (k + 1)))
    have := (h.bsum (a := a) (k := k) (by omega)).add this
    show Cg p (Num.bsum p a k + _) 1
    refine this.trans (Cg.of_eq ?_)
    grind
theorem Pm.fermat1 {p : Nat} (h : Pm p) : ∀ n : Nat, Cg p ((n : Int) ^ p) n
  | 0 => by
    rw [show ((0 : Nat) : Int) = 0 from rfl, Int.zero_pow (by have := h.1; omega)]
    exact Cg.refl
  | n + 1 => by
    obtain ⟨m, rfl⟩ : ∃ m, p = m + 1 := ⟨p - 1, by have := h.1; omega⟩
    have e := bsum_all (n := m + 1) (a := n)
    have b := h.bsum (a := n) (k := m) (by omega)
    have c : Cg ((m + 1 : Nat) : Int) (Num.bsum (m + 1) n (m + 1)) (1 + (n : Int) ^ (m + 1)) := by
      show Cg _ (Num.bsum (m + 1) n m + (Num.bin (m + 1) (m + 1) : Int) * _) _
      rw [bin_self]
      exact b.add (Cg.of_eq (by grind))
    rw [e] at c
    rw [show ((n + 1 : Nat) : Int) = 1 + n by omega]
    exact c.trans (Cg.refl.add (h.fermat1 n))
/-- a power that leaves 1 -/
theorem Pm.fermat {p a : Int} (h : Pm p) (ha : ¬ Cg p a 0) : Cg p (a ^ (p - 2).toNat * a) 1 := by
  obtain ⟨n, rfl⟩ : ∃ n : Nat, p = n := ⟨p.toNat, by have := h.1; omega⟩
  have h2 : 2 ≤ n := by have := h.1; omega
  have m0 := Int.emod_nonneg a (show (n : Int) ≠ 0 by omega)
  obtain ⟨b, hb⟩ : ∃ b : Nat, a % (n : Int) = b := ⟨(a % n).toNat, by omega⟩
  have hab : Cg n a b := by rw [← hb]; exact Cg.emod.symm
  have f := (hab.pow n).trans ((h.fermat1 b).trans hab.symm)
  refine h.can ha ?_
  refine (Cg.of_eq ?_).trans (f.trans (Cg.of_eq (Int.mul_one a).symm))
  obtain ⟨m, rfl⟩ : ∃ m, n = m + 2 := ⟨n - 2, by omega⟩
  rw [show (((m + 2 : Nat) : Int) - 2).toNat = m by omega, Int.pow_succ, Int.pow_succ]
  grind
end Num

/-! Num2: sums by powers of a place; the data through points, and that there is one only -/
namespace Num
def ev (x : Int) : List Int → Int
  | [] => 0
  | c :: cs => c + x * ev x cs
theorem ev_app {x : Int} : ∀ {a b : List Int}, ev x (a ++ b) = ev x a + x ^ a.length * ev x b
  | [], b => by rw [List.nil_append, List.length_nil, Int.pow_zero]; show _ = 0 + _; grind
  | c :: a, b => by
    rw [List.cons_append, List.length_cons, Int.pow_succ]
    show c + x * ev x (a ++ b) = c + x * ev x a + _
    rw [ev_app]
    grind
theorem ev_snoc0 {x : Int} {a : List Int} : ev x (a ++ [0]) = ev x a := by
  rw [ev_app]
  show _ + _ * (0 + x * 0) = _
  grind
def In (p : Int) (cs : List Int) : Prop := ∀ c ∈ cs, 0 ≤ c ∧ c < p
/-- a sum of two lists, item by item -/
theorem ev_zip {p k y : Int} {g : Int × Int → Int} (hg : ∀ a b, Cg p (g (a, b)) (a + k * b)) : ∀ {as bs : List Int}, as.length = bs.length → Cg p (ev y ((as.zip bs).map g)) (ev y as + k * ev y bs)
  | [], [], _ => Cg.of_eq (by show (0 : Int) = 0 + k * 0; grind)
  | a :: as, b :: bs, h => by
    have ih := ev_zip hg (y := y) (as := as) (bs := bs) (by simpa using h)
    show Cg p (g (a, b) + y * ev y ((as.zip bs).map g)) (a + y * ev y as + k * (b + y * ev y bs))
    exact ((hg a b).add (Cg.refl.mul ih)).trans (Cg.of_eq (by grind))
/-! ### what divides -/
def quo (x : Int) : List Int → List Int
  | [] => []
  | [_] => []
  | _ :: d :: ds => ev x (d :: ds) :: quo x (d :: ds)
theorem quo_len {x : Int} : ∀ {cs : List Int}, (quo x cs).length = cs.length - 1
  | [] => rfl
  | [_] => rfl
  | _ :: d :: ds => by
    show (quo x (d :: ds)).length + 1 = ds.length + 1 + 1 - 1
    rw [quo_len]
    simp
theorem ev_quo {x y : Int} : ∀ {cs : List Int}, ev y cs = ev x cs + (y - x) * ev y (quo x cs)
  | [] => by show (0 : Int) = 0 + (y - x) * 0; grind
  | [c] => by show c + y * 0 = c + x * 0 + (y - x) * 0; grind
  | c :: d :: ds => by
    have ih := ev_quo (x := x) (y := y) (cs := d :: ds)
    show c + y * ev y (d :: ds) = c + x * ev x (d :: ds) + (y - x) * (ev x (d :: ds) + y * ev y (quo x (d :: ds)))
    generalize ev y (d :: ds) = e at *
    grind
theorem quo_zero {p x : Int} : ∀ {cs : List Int}, Cg p (ev x cs) 0 → (∀ q ∈ quo x cs, Cg p q 0) → ∀ c ∈ cs, Cg p c 0
  | [], _, _ => fun c h => nomatch h
  | [c], h, _ => fun c' h' => by
    rw [List.mem_singleton] at h'
    subst h'
    exact (Cg.of_eq (by show c' = c' + x * 0; grind)).trans h
  | c :: d :: ds, h, hq => by
    have h1 : Cg p (ev x (d :: ds)) 0 := hq _ (List.mem_cons_self ..)
    have ih := quo_zero h1 fun q hm => hq q (List.mem_cons_of_mem _ hm)
    have h2 : Cg p (c + x * ev x (d :: ds)) 0 := h
    have h3 : Cg p c 0 := by
      obtain ⟨k, h1⟩ := h1
      obtain ⟨l, h2⟩ := h2
      exact ⟨l - x * k, by grind⟩
    intro c' hm
    rcases List.mem_cons.mp hm with rfl | hm
    · exact h3
    · exact ih c' hm
/-- no more places without a rest than places in all -/
theorem all_zero {p : Int} (hp : Pm p) : ∀ {xs : List Int} {cs : List Int}, cs.length ≤ xs.length → xs.Pairwise (fun a b => ¬ Cg p a b) → (∀ x ∈ xs, Cg p (ev x cs) 0) → ∀ c ∈ cs, Cg p c 0
  | [], cs, h, _, _ => by
    cases cs with
    | nil => exact fun c h => nomatch h
    | cons a b => exact absurd h (by simp)
  | x :: xs, cs, h, hn, hz => by
    have hx := hz x (List.mem_cons_self ..)
    refine quo_zero hx (all_zero hp (xs := xs) ?_ (List.pairwise_cons.mp hn).2 fun y hy => ?_)
    · rw [quo_len]
      rw [List.length_cons] at h
      omega
    · have hxy : ¬ Cg p (y - x) 0 := fun c => (List.pairwise_cons.mp hn).1 y hy c.sub_zero.symm
      have e := ev_quo (x := x) (y := y) (cs := cs)
      have h1 := hz y (List.mem_cons_of_mem _ hy)
      by_cases q : Cg p (ev y (quo x cs)) 0
      · exact q
      · refine absurd ?_ (hp.mul hxy q)
        rw [e] at h1
        obtain ⟨k, h1⟩ := h1
        obtain ⟨l, hx⟩ := hx
        exact ⟨k - l, by grind⟩
theorem ev_diff {x : Int} : ∀ {as bs : List Int}, as.length = bs.length → ev x ((as.zip bs).map fun q => q.1 - q.2) = ev x as - ev x bs
  | [], [], _ => by show (0 : Int) = 0 - 0; rfl
  | a :: as, b :: bs, h => by
    have ih := ev_diff (x := x) (as := as) (bs := bs) (by simpa using h)
    show (a - b) + x * ev x ((as.zip bs).map fun q => q.1 - q.2) = a + x * ev x as - (b + x * ev x bs)
    rw [ih]
    grind
theorem eq_of_diff {p : Int} : ∀ {as bs : List Int}, as.length = bs.length → In p as → In p bs → (∀ c ∈ (as.zip bs).map (fun q => q.1 - q.2), Cg p c 0) → as = bs
  | [], [], _, _, _, _ => rfl
  | a :: as, b :: bs, h, ha, hb, hz => by
    have h1 := (hz (a - b) (List.mem_cons_self ..)).sub_zero
    have ia := ha a (List.mem_cons_self ..)
    have ib := hb b (List.mem_cons_self ..)
    rw [h1.eq ia.1 ia.2 ib.1 ib.2, eq_of_diff (as := as) (bs := bs) (by simpa using h) (fun c h => ha c (List.mem_cons_of_mem _ h)) (fun c h => hb c (List.mem_cons_of_mem _ h)) fun c h => hz c (List.mem_cons_of_mem _ h)]
/-- one list only has given sums at places enough -/
theorem one_only {p : Int} (hp : Pm p) {xs as bs : List Int} (hl : as.length = bs.length) (hx : as.length ≤ xs.length) (hn : xs.Pairwise (fun a b => ¬ Cg p a b)) (ha : In p as) (hb : In p bs) (he : ∀ x ∈ xs, Cg p (ev x as) (ev x bs)) : as = bs := by
  refine eq_of_diff hl ha hb (all_zero hp (xs := xs) ?_ hn fun x hm => ?_)
  · rw [List.length_map, List.length_zip, ← hl, Nat.min_self]
    exact hx
  · rw [ev_diff hl]
    exact ((he x hm).sub Cg.refl).trans (Cg.of_eq (by grind))
/-! ### the data through points, one by one -/
structure Thr (p : Int) (pts : List (Int × Int)) (F B : List Int) : Prop where
  fl : F.length = pts.length
  bl : B.length = pts.length + 1
  fi : In p F
  bi : In p B
  fe : ∀ q ∈ pts, Cg p (ev q.1 F) q.2
  be : ∀ q ∈ pts, Cg p (ev q.1 B) 0
  bn : ∀ x, (∀ q ∈ pts, ¬ Cg p x q.1) → ¬ Cg p (ev x B) 0
theorem Thr.nil {p : Int} (hp : Pm p) : Thr p [] [] [1] where
  fl := rfl
  bl := rfl
  fi := fun c h => nomatch h
  bi := fun c h => by rw [List.mem_singleton] at h; subst h; have := hp.1; omega
  fe := fun q h => nomatch h
  be := fun q h => nomatch h
  bn := fun x _ => by
    show ¬ Cg p (1 + x * 0) 0
    intro c
    have := hp.1
    have := c.eq (by omega) (by omega) (by omega) (by omega)
    omega
def stepF (p f : Int) (F B : List Int) : List Int := ((F ++ [0]).zip B).map fun (a : Int × Int) => (a.1 + f * a.2) % p
def stepB (p x : Int) (B : List Int) : List Int := ((0 :: B).zip (B ++ [0])).map fun (a : Int × Int) => (a.1 - x * a.2) % p
theorem in_map {p : Int} (hp : 0 < p) {α : Type} {g : α → Int} {xs : List α} : In p (xs.map fun a => g a % p) := fun c h => by
  obtain ⟨a, _, rfl⟩ := List.mem_map.mp h
  exact ⟨Int.emod_nonneg _ (by omega), Int.emod_lt_of_pos _ hp⟩
theorem Thr.step {p x y : Int} {pts : List (Int × Int)} {F B : List Int} (hp : Pm p) (h : Thr p pts F B) (hx : ∀ q ∈ pts, ¬ Cg p x q.1) {f : Int} (hf : Cg p (f * ev x B) (y - ev x F)) : Thr p (pts ++ [(x, y)]) (stepF p f F B) (stepB p x B) := by
  have l1 : (F ++ [0]).length = B.length := by rw [List.length_append, h.fl, h.bl]; rfl
  have l2 : (0 :: B).length = (B ++ [0]).length := by rw [List.length_append]; rfl
  have eF : ∀ z, Cg p (ev z (stepF p f F B)) (ev z F + f * ev z B) := fun z => by
    have := ev_zip (p := p) (k := f) (y := z) (g := fun a => (a.1 + f * a.2) % p) (fun a b => Cg.emod) l1
    rwa [ev_snoc0] at this
  have eB : ∀ z, Cg p (ev z (stepB p x B)) ((z - x) * ev z B) := fun z => by
    have := ev_zip (p := p) (k := -x) (y := z) (g := fun a => (a.1 - x * a.2) % p) (fun a b => Cg.emod.trans (Cg.of_eq (by grind))) l2
    rw [ev_snoc0] at this
    refine this.trans (Cg.of_eq ?_)
    show 0 + z * ev z B + -x * ev z B = _
    grind
  refine ⟨?_, ?_, in_map hp.pos, in_map hp.pos, ?_, ?_, ?_⟩
  · unfold stepF
    rw [List.length_map, List.length_zip, l1, Nat.min_self, h.bl, List.length_append]
    rfl
  · unfold stepB
    rw [List.length_map, List.length_zip, ← l2, Nat.min_self, List.length_cons, h.bl, List.length_append]
    rfl
  · intro q hq
    refine (eF q.1).trans ?_
    rcases List.mem_append.mp hq with hq | hq
    · exact ((h.fe q hq).add (Cg.refl.mul (h.be q hq))).trans (Cg.of_eq (by grind))
    · rw [List.mem_singleton] at hq
      subst hq
      exact (Cg.refl.add hf).trans (Cg.of_eq (by show ev x F + (y - ev x F) = y; grind))
  · intro q hq
    refine (eB q.1).trans ?_
    rcases List.mem_append.mp hq with hq | hq
    · exact (Cg.refl.mul (h.be q hq)).trans (Cg.of_eq (by grind))
    · rw [List.mem_singleton] at hq
      subst hq
      exact Cg.of_eq (by show (x - x) * _ = 0; grind)
  · intro z hz c
    have c := (eB z).symm.trans c
    refine hp.mul ?_ (h.bn z fun q hq => hz q (List.mem_append_left _ hq)) c
    intro c
    exact hz (x, y) (List.mem_append_right _ (List.mem_singleton.mpr rfl)) c.sub_zero
end Num

/-! Num3: figures; lots by their numbers; disks that are lost -/
namespace Num
open Mir
def val (p x : Int) (cs : List Int) : Int := cs.foldr (fun a t => (t * x + a) % p) 0
theorem val_ev {p x : Int} : ∀ {cs : List Int}, val p x cs = ev x cs % p
  | [] => by show (0 : Int) = 0 % p; simp
  | c :: cs => by
    show (val p x cs * x + c) % p = (c + x * ev x cs) % p
    rw [val_ev]
    refine Cg.em ?_
    exact ((Cg.emod.mul Cg.refl).add Cg.refl).trans (Cg.of_eq (by grind))
def digs (p : Int) : Nat → Int → List Int
  | 0, _ => []
  | j + 1, n => n % p :: digs p j (n / p)
theorem digs_len {p : Int} : ∀ {j : Nat} {n : Int}, (digs p j n).length = j
  | 0, _ => rfl
  | j + 1, n => by show (digs p j (n / p)).length + 1 = _; rw [digs_len]
theorem digs_in {p : Int} (hp : 0 < p) : ∀ {j : Nat} {n : Int}, In p (digs p j n)
  | 0, _ => fun c h => nomatch h
  | j + 1, n => fun c h => by
    rcases List.mem_cons.mp h with rfl | h
    · exact ⟨Int.emod_nonneg _ (by omega), Int.emod_lt_of_pos _ hp⟩
    · exact digs_in hp c h
theorem ev_digs {p : Int} (hp : 0 < p) : ∀ {j : Nat} {n : Int}, 0 ≤ n → n < p ^ j → ev p (digs p j n) = n
  | 0, n, h0, h1 => by rw [Int.pow_zero] at h1; show (0 : Int) = n; omega
  | j + 1, n, h0, h1 => by
    have h2 : n / p < p ^ j := Int.ediv_lt_of_lt_mul hp (by rw [Int.pow_succ] at h1; exact h1)
    show n % p + p * ev p (digs p j (n / p)) = n
    rw [ev_digs hp (Int.ediv_nonneg h0 (by omega)) h2]
    have := Int.mul_ediv_add_emod n p
    omega
/-! ### lots -/
def lotAt : Nat → Nat → Int → Int → List Int
  | 0, _, _, _ => []
  | _ + 1, 0, _, _ => []
  | m + 1, k + 1, r, n => if n < (bin m k : Int) then r :: lotAt m k (r + 1) n else lotAt m (k + 1) (r + 1) (n - bin m k)
theorem lot_k0 : ∀ {m : Nat} {r n : Int}, lotAt m 0 r n = []
  | 0, _, _ => rfl
  | _ + 1, _, _ => rfl
theorem lot_facts : ∀ {m k : Nat} {r n : Int}, 0 ≤ n → n < bin m k → (lotAt m k r n).length = k ∧ (∀ x ∈ lotAt m k r n, r ≤ x ∧ x < r + m) ∧ (lotAt m k r n).Pairwise (· < ·)
  | 0, 0, _, _, _, _ => ⟨rfl, fun x h => (nomatch h), .nil⟩
  | 0, k + 1, _, n, h0, h1 => absurd h1 (by show ¬ n < ((0 : Nat) : Int); omega)
  | m + 1, 0, _, _, _, _ => ⟨rfl, fun x h => (nomatch h), .nil⟩
  | m + 1, k + 1, r, n, h0, h1 => by
    have h1 : n < ((bin m k + bin m (k + 1) : Nat) : Int) := h1
    unfold lotAt
    split
    · rename_i c
      obtain ⟨a, b, d⟩ := lot_facts (m := m) (k := k) (r := r + 1) h0 c
      refine ⟨by rw [List.length_cons, a], fun x hx => ?_, .cons (fun x hx => ?_) d⟩
      · rcases List.mem_cons.mp hx with rfl | hx
        · omega
        · have := b x hx; omega
      · have := b x hx; omega
    · obtain ⟨a, b, d⟩ := lot_facts (m := m) (k := k + 1) (r := r + 1) (n := n - bin m k) (by omega) (by omega)
      exact ⟨a, fun x hx => by have := b x hx; omega, d⟩
theorem bin_pos : ∀ {m k : Nat}, k ≤ m → 0 < bin m k
  | 0, 0, _ => by decide
  | m + 1, 0, _ => by rw [bin_0]; decide
  | m + 1, k + 1, h => by
    have := bin_pos (m := m) (k := k) (by omega)
    rw [bin_s]
    omega
theorem lot_first : ∀ {m k : Nat} {r : Int}, k ≤ m → lotAt m k r 0 = rng r k
  | 0, 0, _, _ => rfl
  | m + 1, 0, _, _ => rfl
  | m + 1, k + 1, r, h => by
    unfold lotAt
    have : 0 < bin m k := bin_pos (by omega)
    rw [if_pos (by omega), lot_first (by omega), rng_succ]
theorem bin_le : ∀ {n k : Nat}, bin n k ≤ 2 ^ n
  | n, 0 => by rw [bin_0]; exact Nat.pos_of_ne_zero (by simp)
  | 0, k + 1 => Nat.zero_le _
  | n + 1, k + 1 => by
    have h1 := bin_le (n := n) (k := k)
    have h2 := bin_le (n := n) (k := k + 1)
    rw [bin_s, Nat.pow_succ]
    omega
/-! ### disks that are lost -/
theorem cnt_mod {n : Nat} {g : Int} (hn : 0 < n) (h0 : 0 ≤ g) (h1 : g < n) (c : Nat) : ((rng 0 (n * c)).filter fun x => x % (n : Int) = g).length ≤ c := by
  induction c with
  | zero => simp [rng_zero]
  | succ c ih =>
    rw [Nat.mul_succ, rng_add, List.filter_append, List.length_append]
    have : ((rng (0 + ((n * c : Nat) : Int)) n).filter fun x => x % (n : Int) = g).length ≤ 1 := by
      have e : ∀ x ∈ rng (0 + ((n * c : Nat) : Int)) n, (decide (x % (n : Int) = g)) = decide (x = n * c + g) := fun x hx => by
        have hx := mem_rng.mp hx
        rw [Int.natCast_mul] at hx
        have hd := Int.mul_ediv_add_emod x n
        have hq : x / n = c := (Int.ediv_eq_iff_of_pos (by omega)).mpr ⟨by rw [Int.mul_comm]; omega, by rw [Int.mul_comm]; omega⟩
        by_cases q : x = n * c + g
        · rw [decide_eq_true q, decide_eq_true]
          rw [q, Int.mul_add_emod_self_left, Int.emod_eq_of_lt h0 h1]
        · rw [decide_eq_false q, decide_eq_false]
          intro q2
          rw [q2, hq] at hd
          omega
      rw [List.filter_congr e]
      have pw := rng_pw (a := 0 + ((n * c : Nat) : Int)) (n := n)
      have pf := pw.filter (fun x => decide (x = n * c + g))
      have hm : ∀ x ∈ (rng (0 + ((n * c : Nat) : Int)) n).filter (fun x => decide (x = n * c + g)), x = n * c + g := fun x hx => of_decide_eq_true (List.mem_filter.mp hx).2
      revert pf hm
      generalize (rng (0 + ((n * c : Nat) : Int)) n).filter (fun x => decide (x = n * c + g)) = l
      intro pf hm
      match l, pf, hm with
      | [], _, _ => simp
      | [_], _, _ => simp
      | a :: b :: l, pf, hm =>
        exfalso
        have h1 := (List.pairwise_cons.mp pf).1 b (List.mem_cons_self ..)
        have h2 := hm a (List.mem_cons_self ..)
        have h3 := hm b (List.mem_cons_of_mem _ (List.mem_cons_self ..))
        omega
    omega
theorem filter_cons_len {α : Type} {p q r : α → Bool} (h : ∀ x, r x = true → p x = true ∨ q x = true) : ∀ xs : List α, (xs.filter r).length ≤ (xs.filter p).length + (xs.filter q).length
  | [] => by simp
  | x :: xs => by
    have ih := filter_cons_len h xs
    have hx := h x
    rw [List.filter_cons, List.filter_cons, List.filter_cons]
    cases e1 : r x <;> cases e2 : p x <;> cases e3 : q x <;> simp only [e1, e2, e3, if_true, if_false, List.length_cons, Bool.false_eq_true] at * <;> first | omega | (exfalso; simp at hx)
theorem filter_not_len {α : Type} {p : α → Bool} : ∀ xs : List α, (xs.filter p).length + (xs.filter fun x => !p x).length = xs.length
  | [] => rfl
  | x :: xs => by
    have ih := filter_not_len (p := p) xs
    rw [List.filter_cons, List.filter_cons]
    cases e : p x <;> simp [e] <;> omega
theorem gone_len {n c : Nat} (hn : 0 < n) {h : Nat} (hh : h ≤ n * c) : ∀ {gone : List Int}, (∀ g ∈ gone, 0 ≤ g ∧ g < n) → ((rng 0 h).filter fun x => decide (x % (n : Int) ∈ gone)).length ≤ gone.length * c
  | [], _ => by simp
  | g :: gone, hg => by
    have ih := gone_len hn hh (gone := gone) fun x hx => hg x (List.mem_cons_of_mem _ hx)
    have h1 := filter_cons_len (p := fun x => decide (x % (n : Int) = g)) (q := fun x => decide (x % (n : Int) ∈ gone)) (r := fun x => decide (x % (n : Int) ∈ g :: gone)) (fun x hx => by
      have hx := of_decide_eq_true hx
      rcases List.mem_cons.mp hx with q | q
      · exact .inl (decide_eq_true q)
      · exact .inr (decide_eq_true q)) (rng 0 h)
    have ⟨g0, g1⟩ := hg g (List.mem_cons_self ..)
    have h2 := cnt_mod hn g0 g1 c
    have h3 : ((rng 0 h).filter fun x => x % (n : Int) = g).length ≤ ((rng 0 (n * c)).filter fun x => x % (n : Int) = g).length := by
      obtain ⟨y, hy⟩ : ∃ y, n * c = h + y := ⟨n * c - h, by omega⟩
      rw [hy, rng_add, List.filter_append, List.length_append]
      omega
    rw [List.length_cons, Nat.add_mul, Nat.one_mul]
    omega
/-- of s + f * c heads, dealt to n disks in turn, s at least are left -/
theorem left_len {n f s c : Nat} (hn : f < n) (hc : s ≤ (n - f) * c) {gone : List Int} (hl : gone.length ≤ f) (hg : ∀ g ∈ gone, 0 ≤ g ∧ g < n) : s ≤ ((rng 0 (s + f * c)).filter fun x => !decide (x % (n : Int) ∈ gone)).length := by
  have h1 : s + f * c ≤ n * c := by
    obtain ⟨d, rfl⟩ : ∃ d, n = d + f := ⟨n - f, by omega⟩
    rw [Nat.add_sub_cancel] at hc
    rw [Nat.add_mul]
    omega
  have h2 := gone_len (by omega) h1 hg
  have h3 := filter_not_len (p := fun x => decide (x % (n : Int) ∈ gone)) (rng 0 (s + f * c))
  have h4 : gone.length * c ≤ f * c := Nat.mul_le_mul_right _ hl
  have h5 : (rng 0 (s + f * c)).length = s + f * c := by rw [rng_len]
  omega
end Num

/-! Num4: views of heads that a cut leaves; their mending -/
namespace Num
open Mir
def mk (hs : List Int) (c : Int → Int) : List (Int × Int) := hs.map fun i => (i, c i)
def Srt (hs : List Int) : Prop := hs.Pairwise (· < ·)
theorem Srt.filter {hs : List Int} (h : Srt hs) (p : Int → Bool) : Srt (hs.filter p) := List.Pairwise.filter p h
theorem Srt.take {hs : List Int} (h : Srt hs) (n : Nat) : Srt (hs.take n) := List.Pairwise.sublist (List.take_sublist n hs) h
theorem Srt.nodup {hs : List Int} (h : Srt hs) : hs.Nodup := List.Pairwise.imp (fun {a b} (q : a < b) => by omega) h
theorem mk_len {hs : List Int} {c : Int → Int} : (mk hs c).length = hs.length := List.length_map ..
theorem mk_fst {hs : List Int} {c : Int → Int} : (mk hs c).map (fun a => a.1) = hs := by
  unfold mk
  rw [List.map_map]
  exact List.map_id' hs
theorem mk_take {hs : List Int} {c : Int → Int} (n : Nat) : (mk hs c).take n = mk (hs.take n) c := (List.map_take ..).symm
theorem mk_filter {hs : List Int} {c : Int → Int} {p : Int × Int → Bool} : (mk hs c).filter p = mk (hs.filter fun i => p (i, c i)) c := List.filter_map ..
theorem mk_congr {hs : List Int} {c c' : Int → Int} (h : ∀ i ∈ hs, c i = c' i) : mk hs c = mk hs c' := List.map_congr_left fun i hi => by rw [h i hi]
theorem mk_map {β : Type} {hs : List Int} {c : Int → Int} {f : Int × Int → β} : (mk hs c).map f = hs.map fun i => f (i, c i) := List.map_map ..
theorem mk_mem {hs : List Int} {c : Int → Int} {a : Int × Int} : a ∈ mk hs c ↔ a.1 ∈ hs ∧ a.2 = c a.1 := by
  unfold mk
  rw [List.mem_map]
  exact ⟨fun ⟨i, h, e⟩ => by subst e; exact ⟨h, rfl⟩, fun ⟨h, e⟩ => ⟨a.1, h, by rw [← e]⟩⟩
/-- heads below t are right, above it 0 -/
def Cut (hs : List Int) (c w : Int → Int) (t : Int) : Prop := ∀ i ∈ hs, (i < t → c i = w i) ∧ (t < i → c i = 0)
theorem Cut.sub {hs hs' : List Int} {c w : Int → Int} {t : Int} (h : Cut hs c w t) (s : ∀ i ∈ hs', i ∈ hs) : Cut hs' c w t := fun i hi => h i (s i hi)
theorem Cut.congr {hs : List Int} {c c' w : Int → Int} {t : Int} (h : Cut hs c w t) (e : ∀ i ∈ hs, c i = c' i) : Cut hs c' w t := fun i hi => by rw [← e i hi]; exact h i hi
def nz (hs : List Int) (c : Int → Int) : Nat := (hs.filter fun i => !decide (c i = 0)).length
theorem nz_cons {i : Int} {hs : List Int} {c : Int → Int} : nz (i :: hs) c = (if c i = 0 then 0 else 1) + nz hs c := by
  unfold nz
  rw [List.filter_cons]
  by_cases e : c i = 0
  · rw [if_pos e, decide_eq_true e]; simp
  · rw [if_neg e, decide_eq_false e]; simp; omega
theorem nz_zero {hs : List Int} {c : Int → Int} (h : ∀ i ∈ hs, c i = 0) : nz hs c = 0 := by
  unfold nz
  rw [List.filter_eq_nil_iff.mpr fun i hi => by simp [h i hi]]
  rfl
theorem nz_mono {hs : List Int} {c c' : Int → Int} (h : ∀ i ∈ hs, c i = 0 → c' i = 0) : nz hs c' ≤ nz hs c := by
  induction hs with
  | nil => exact Nat.le_refl _
  | cons i hs ih =>
    have := ih fun x hx => h x (List.mem_cons_of_mem _ hx)
    have h1 := h i (List.mem_cons_self ..)
    rw [nz_cons, nz_cons]
    by_cases e : c i = 0
    · rw [if_pos e, if_pos (h1 e)]; omega
    · rw [if_neg e]; split <;> omega
theorem nz_filter {hs : List Int} {c : Int → Int} (p : Int → Bool) : nz (hs.filter p) c ≤ nz hs c := by
  unfold nz
  exact (List.Sublist.filter _ List.filter_sublist).length_le
theorem Cut.rest {i : Int} {hs : List Int} {c w : Int → Int} {t : Int} (s : Srt (i :: hs)) (h : Cut (i :: hs) c w t) (hw : w i ≠ 0) (e : c i = 0) : ∀ x ∈ hs, c x = 0 := fun x hx => by
  have h1 := List.rel_of_pairwise_cons s hx
  have h2 := (h i (List.mem_cons_self ..)).1
  by_cases q : i < t
  · exact absurd ((h2 q).symm.trans e) hw
  · exact (h x (List.mem_cons_of_mem _ hx)).2 (by omega)
/-- none of the first n is 0 -/
theorem Cut.first {t : Int} {c w : Int → Int} : ∀ {hs : List Int} {n : Nat}, Srt hs → Cut hs c w t → (∀ i ∈ hs, w i ≠ 0) → n ≤ hs.length → ((∀ i ∈ hs.take n, c i ≠ 0) ↔ n ≤ nz hs c)
  | [], n, _, _, _, hn => by
    have : n = 0 := by simpa using hn
    subst this
    simp
  | i :: hs, 0, _, _, _, _ => by simp
  | i :: hs, n + 1, s, h, hw, hn => by
    have ih := Cut.first (hs := hs) (n := n) (List.pairwise_cons.mp s).2 (h.sub fun x hx => List.mem_cons_of_mem _ hx) (fun x hx => hw x (List.mem_cons_of_mem _ hx)) (by simpa using hn)
    rw [nz_cons, List.take_succ_cons]
    by_cases e : c i = 0
    · rw [if_pos e, nz_zero (h.rest s (hw i (List.mem_cons_self ..)) e)]
      exact ⟨fun q => absurd e (q i (List.mem_cons_self ..)), fun q => by omega⟩
    · rw [if_neg e]
      constructor
      · intro q
        have := ih.mp fun x hx => q x (List.mem_cons_of_mem _ hx)
        omega
      · intro q x hx
        rcases List.mem_cons.mp hx with rfl | hx
        · exact e
        · exact ih.mpr (by omega) x hx
/-- then all but the last of them are right -/
theorem Cut.right {t : Int} {c w : Int → Int} : ∀ {hs : List Int} {n : Nat}, Srt hs → Cut hs c w t → n + 1 ≤ hs.length → (∀ i ∈ hs.take (n + 1), c i ≠ 0) → ∀ i ∈ hs.take n, c i = w i
  | hs, 0, _, _, _, _ => by simp
  | [], n + 1, _, _, hn, _ => by simp
  | [i], n + 1, _, _, hn, _ => by simp at hn
  | i :: i2 :: hs, n + 1, s, h, hn, hz => by
    intro x hx
    rw [List.take_succ_cons] at hx hz
    rcases List.mem_cons.mp hx with rfl | hx
    · have h1 := List.rel_of_pairwise_cons s (List.mem_cons_self (a := i2) (l := hs))
      have h2 := (h i2 (List.mem_cons_of_mem _ (List.mem_cons_self ..))).2
      have h3 := hz i2 (by rw [List.take_succ_cons]; exact List.mem_cons_of_mem _ (List.mem_cons_self ..))
      refine (h x (List.mem_cons_self ..)).1 ?_
      by_cases q : t < i2
      · exact absurd (h2 q) h3
      · omega
    · exact Cut.right (hs := i2 :: hs) (List.pairwise_cons.mp s).2 (h.sub fun x hx => List.mem_cons_of_mem _ hx) (by simpa using hn) (fun y hy => hz y (List.mem_cons_of_mem _ hy)) x hx
/-! ### mending -/
/-- the heads that are written -/
def wr (hs : List Int) (c w : Int → Int) (due : Bool) : List Int := if due = true then hs.filter fun i => !decide (c i = w i) else hs.reverse.filter fun i => !decide (c i = 0)
def wto (w : Int → Int) (due : Bool) (i : Int) : Int := if due = true then w i else 0
/-- the first writes are done -/
def done (c : Int → Int) (L : List Int) (u : Int → Int) (i : Int) : Int := if i ∈ L then u i else c i
theorem done_nil {c u : Int → Int} : done c [] u = c := funext fun i => if_neg (fun h => nomatch h)
theorem done_cons {c u : Int → Int} {x : Int} {L : List Int} : done (fun i => if i = x then u x else c i) L u = done c (x :: L) u := funext fun i => by
  unfold done
  by_cases h : i ∈ L
  · rw [if_pos h, if_pos (List.mem_cons_of_mem _ h)]
  · rw [if_neg h]
    show (if i = x then u x else c i) = _
    by_cases e : i = x
    · subst e
      rw [if_pos rfl, if_pos (List.mem_cons_self ..)]
    · rw [if_neg e, if_neg]
      intro q
      rcases List.mem_cons.mp q with q | q
      · exact e q
      · exact h q
section
variable {hs : List Int} {c w : Int → Int} {t : Int}
theorem wr_mem {due : Bool} {i : Int} (h : i ∈ wr hs c w due) : i ∈ hs := by
  unfold wr at h
  split at h
  · exact (List.mem_filter.mp h).1
  · exact List.mem_reverse.mp (List.mem_filter.mp h).1
theorem Cut.torn_due (s : Srt hs) (h : Cut hs c w t) {A B : List Int} {x : Int} (e : wr hs c w true = A ++ x :: B) (y : Int) : Cut hs (fun i => if i = x then y else done c A w i) w x := by
  have e : hs.filter (fun i => !decide (c i = w i)) = A ++ x :: B := e
  have sf := s.filter (fun i => !decide (c i = w i))
  rw [e] at sf
  have sf := List.pairwise_append.mp sf
  have hx : x ∈ hs.filter (fun i => !decide (c i = w i)) := by rw [e]; simp
  have hx := List.mem_filter.mp hx
  have hxw : c x ≠ w x := by simpa using hx.2
  have hxt : t ≤ x := by
    by_cases q : x < t
    · exact absurd ((h x hx.1).1 q) hxw
    · omega
  intro i hi
  refine ⟨fun hlt => ?_, fun hlt => ?_⟩
  · dsimp only
    rw [if_neg (by omega)]
    unfold done
    by_cases q : i ∈ A
    · rw [if_pos q]
    · rw [if_neg q]
      by_cases q2 : c i = w i
      · exact q2
      · exfalso
        have : i ∈ A ++ x :: B := by rw [← e]; exact List.mem_filter.mpr ⟨hi, by simpa using q2⟩
        rcases List.mem_append.mp this with q3 | q3
        · exact q q3
        · rcases List.mem_cons.mp q3 with q3 | q3
          · omega
          · have := (List.pairwise_cons.mp sf.2.1).1 i q3
            omega
  · dsimp only
    rw [if_neg (by omega)]
    unfold done
    rw [if_neg fun q => by have := sf.2.2 i q x (List.mem_cons_self ..); omega]
    exact (h i hi).2 (by omega)
theorem Cut.torn_not (s : Srt hs) (h : Cut hs c w t) {A B : List Int} {x : Int} (e : wr hs c w false = A ++ x :: B) (y : Int) : Cut hs (fun i => if i = x then y else done c A (fun _ => 0) i) w x := by
  have e : hs.reverse.filter (fun i => !decide (c i = 0)) = A ++ x :: B := e
  have sf : (hs.reverse.filter (fun i => !decide (c i = 0))).Pairwise (fun a b => b < a) := List.Pairwise.filter _ (List.pairwise_reverse.mpr s)
  rw [e] at sf
  have sf := List.pairwise_append.mp sf
  have hx : x ∈ hs.reverse.filter (fun i => !decide (c i = 0)) := by rw [e]; simp
  have hx := List.mem_filter.mp hx
  have hxw : c x ≠ 0 := by simpa using hx.2
  have hxt : x ≤ t := by
    by_cases q : t < x
    · exact absurd ((h x (List.mem_reverse.mp hx.1)).2 q) hxw
    · omega
  intro i hi
  refine ⟨fun hlt => ?_, fun hlt => ?_⟩
  · dsimp only
    rw [if_neg (by omega)]
    unfold done
    rw [if_neg fun q => by have := sf.2.2 i q x (List.mem_cons_self ..); omega]
    exact (h i hi).1 (by omega)
  · dsimp only
    rw [if_neg (by omega)]
    unfold done
    by_cases q : i ∈ A
    · rw [if_pos q]
    · rw [if_neg q]
      by_cases q2 : c i = 0
      · exact q2
      · exfalso
        have : i ∈ A ++ x :: B := by rw [← e]; exact List.mem_filter.mpr ⟨List.mem_reverse.mpr hi, by simpa using q2⟩
        rcases List.mem_append.mp this with q3 | q3
        · exact q q3
        · rcases List.mem_cons.mp q3 with q3 | q3
          · omega
          · have := (List.pairwise_cons.mp sf.2.1).1 i q3
            omega
theorem all_due : ∀ i ∈ hs, done c (wr hs c w true) w i = w i := fun i hi => by
  unfold done
  split
  · rfl
  · rename_i q
    by_cases e : c i = w i
    · exact e
    · exact absurd (List.mem_filter.mpr ⟨hi, by simpa using e⟩) q
theorem all_not : ∀ i ∈ hs, done c (wr hs c w false) (fun _ => 0) i = 0 := fun i hi => by
  unfold done
  split
  · rfl
  · rename_i q
    by_cases e : c i = 0
    · exact e
    · exact absurd (List.mem_filter.mpr ⟨List.mem_reverse.mpr hi, by simpa using e⟩) q
theorem all_done {due : Bool} : ∀ i ∈ hs, done c (wr hs c w due) (wto w due) i = wto w due i := by
  cases due with
  | true => exact all_due
  | false => exact all_not
/-- some writes done, the next with any content -/
theorem Cut.torn {due : Bool} (s : Srt hs) (h : Cut hs c w t) {A B : List Int} {x : Int} (e : wr hs c w due = A ++ x :: B) (y : Int) : Cut hs (fun i => if i = x then y else done c A (wto w due) i) w x := by
  cases due with
  | true => exact h.torn_due s e y
  | false => exact h.torn_not s e y
theorem torn_nz {A B : List Int} {x : Int} (e : wr hs c w false = A ++ x :: B) (y : Int) : nz hs (fun i => if i = x then y else done c A (wto w false) i) ≤ nz hs c := by
  refine nz_mono fun i hi hc => ?_
  have hm : ∀ z ∈ A ++ x :: B, c z ≠ 0 := fun z hz => by
    rw [← e] at hz
    simpa using (List.mem_filter.mp hz).2
  have h1 : i ≠ x := by rintro rfl; exact hm i (by simp) hc
  rw [if_neg h1]
  unfold done
  split
  · rfl
  · exact hc
end
end Num

/-! MirO: more plain laws: the store, loops without a change of state, a law's box -/
namespace Mir
open PySem L2
section
variable {K : PySem.W.Frag} {s : Sto K} {r : Ref} {o : Ob}
theorem st_mnew {Q : Ref → Sto K → Prop} : (mnew o s).st Q ↔ ∀ a, s.f a = none → Q ⟨a⟩ (s.put a o) := by rw [st_iff, sat_mnew]
theorem st_mldL {Q : List Py → Sto K → Prop} : (mldL r s).st Q ↔ ∃ xs, s.f r.a = some (.lst xs) ∧ Q xs s := by rw [st_iff, sat_mldL]
theorem st_mldD {Q : List (Key × Py) → Sto K → Prop} : (mldD r s).st Q ↔ ∃ xs, s.f r.a = some (.dic xs) ∧ Q xs s := by rw [st_iff, sat_mldD]
theorem st_mput {Q : Unit → Sto K → Prop} : (mput r o s).st Q ↔ ∃ o0, s.f r.a = some o0 ∧ Q () (s.put r.a o) := by rw [st_iff, sat_mput]
theorem st_mldT {α : Type} [Rp α] [PyT α] {Q : List α → Sto K → Prop} : (mldT α r s).st Q ↔ ∃ ps xs, s.f r.a = some (.lst ps) ∧ decs α ps = some xs ∧ Q xs s := by rw [st_iff, sat_mldT]
end
section
variable {S α β τ ρ : Type}
theorem st_moc {m : Mn S (Option ρ)} {m0 : Mn S τ} {m1 : ρ → Mn S τ} {s : S} {Q : τ → S → Prop} : (moc m m0 m1 s).st Q ↔ (m s).st fun o s' => (o = none → (m0 s').st Q) ∧ ∀ x, o = some x → (m1 x s').st Q := by
  unfold moc
  rw [st_mb]
  constructor
  · refine fun h => R.st_imp h fun o s' h => ?_
    cases o with
    | none => exact ⟨fun _ => h, fun x e => nomatch e⟩
    | some x => exact ⟨fun e => (nomatch e), fun y e => by cases e; exact h⟩
  · refine fun h => R.st_imp h fun o s' h => ?_
    cases o with
    | none => exact h.1 rfl
    | some x => exact h.2 x rfl
/-- a loop without a change of state -/
theorem st_forF {body : α → τ → Mn S τ} {f : τ → α → τ} {P : τ → Prop} {s : S} {Q : τ → S → Prop} : ∀ {xs : List α} {t : τ}, P t → (∀ x ∈ xs, ∀ t, P t → (body x t s).st fun t' s' => t' = f t x ∧ P t' ∧ s' = s) → (P (xs.foldl f t) → Q (xs.foldl f t) s) → (forP xs t body s).st Q
  | [], t, h, _, q => by rw [forP_nil]; exact st_mp.mpr (q h)
  | x :: xs, t, h, hb, q => by
    rw [forP_cons]
    refine st_mb.mpr (R.st_imp (hb x (List.mem_cons_self ..) t h) fun t' s' ⟨e, p, e2⟩ => ?_)
    subst e e2
    exact st_forF p (fun y hy => hb y (List.mem_cons_of_mem _ hy)) q
theorem st_cmA {f : α → Mn S β} {g : α → β} {s : S} {Q : List β → S → Prop} {xs : List α} (hl : xs.length ≤ 16000000) (hf : ∀ x ∈ xs, (f x s).st fun y s' => y = g x ∧ s' = s) (q : Q (xs.map g) s) : (cmP xs (fun _ => mp true) f s).st Q := by
  refine st_cmP (p := fun _ => true) hl (fun x _ => st_mp.mpr ⟨rfl, rfl⟩) (fun x hx _ => hf x hx) ?_
  rw [List.filter_eq_self.mpr (by simp)]
  exact q
theorem st_cmF {c : α → Mn S Bool} {f : α → Mn S β} {p : α → Bool} {g : α → β} {s : S} {Q : List β → S → Prop} {xs : List α} (hl : xs.length ≤ 16000000) (hc : ∀ x ∈ xs, (c x s).st fun b s' => b = p x ∧ s' = s) (hf : ∀ x ∈ xs, p x = true → (f x s).st fun y s' => y = g x ∧ s' = s) (q : Q ((xs.filter p).map g) s) : (cmP xs c f s).st Q := st_cmP hl hc hf q
def okv [DecidableEq α] (r : R S α) (x : α) : Bool := match r with
  | .ok y _ => decide (y = x)
  | _ => false
theorem of_okv [DecidableEq α] {r : R Unit α} {x : α} {Q : α → Unit → Prop} (h : okv r x = true) (q : Q x ()) : r.st Q := by
  cases r with
  | ok y s => cases of_decide_eq_true h; exact ⟨q⟩
  | bad => cases h
  | exc => cases h
  | all => cases h
end
theorem allid {α : Type} {p : α → Bool} {xs : List α} : (xs.map p).all id = xs.all p := by rw [List.all_map]; rfl
theorem anyid {α : Type} {p : α → Bool} {xs : List α} : (xs.map p).any id = xs.any p := by rw [List.any_map]; rfl
theorem rng_length {a : Int} {n : Nat} : (rng a n).length = n := by unfold rng; simp
theorem sIx_pos {n : Nat} {d : Nat} {i : Int} (h : 0 ≤ i) : HT.sIx n d (some i) = min i.toNat n := by
  unfold HT.sIx
  simp only
  split <;> omega
theorem cutL_to {α : Type} {xs : List α} {i : Int} (h : 0 ≤ i) : cutL xs none (some i) = xs.take i.toNat := by
  unfold cutL
  rw [sIx_pos h]
  show (xs.drop 0).take (min i.toNat xs.length - 0) = _
  rw [List.drop_zero, Nat.sub_zero]
  by_cases q : i.toNat ≤ xs.length
  · rw [Nat.min_eq_left q]
  · rw [Nat.min_eq_right (by omega), List.take_length, List.take_of_length_le (by omega)]
theorem cutL_from {α : Type} {xs : List α} {i : Int} (h : 0 ≤ i) : cutL xs (some i) none = xs.drop i.toNat := by
  unfold cutL
  rw [sIx_pos h]
  show (xs.drop (min i.toNat xs.length)).take (xs.length - min i.toNat xs.length) = _
  by_cases q : i.toNat ≤ xs.length
  · rw [Nat.min_eq_left q, List.take_of_length_le (by rw [List.length_drop]; omega)]
  · rw [Nat.min_eq_right (by omega), List.drop_length, List.drop_of_length_le (by omega)]
    simp
/-! ### bits -/
def Bn (a : Nat) (x : Int) : Prop := x.natAbs < 2 ^ a
theorem Bn.mul {a b : Nat} {x y : Int} (h : Bn a x) (g : Bn b y) : Bn (a + b) (x * y) := by
  unfold Bn at *
  rw [Int.natAbs_mul, Nat.pow_add]
  exact Nat.mul_lt_mul'' h g
theorem Bn.mono {a b : Nat} {x : Int} (h : Bn a x) (l : a ≤ b) : Bn b x := Nat.lt_of_lt_of_le h (Nat.pow_le_pow_right (by decide) l)
theorem Bn.add {a : Nat} {x y : Int} (h : Bn a x) (g : Bn a y) : Bn (a + 1) (x + y) := by
  unfold Bn at *
  have := Int.natAbs_add_le x y
  rw [Nat.pow_succ]
  omega
theorem Bn.ok {a b : Nat} {x y : Int} (h : Bn a x) (g : Bn b y) (ha : a ≠ 0) (hb : b ≠ 0) (hl : a + b ≤ 1000000) : mulOk x y = true := decide_eq_true (by
  have h1 := log2_lt' h ha
  have h2 := log2_lt' g hb
  omega)
theorem Bn.small {x : Int} (h0 : 0 ≤ x) (h1 : x < 1024) : Bn 10 x := by
  unfold Bn
  have : (2 : Nat) ^ 10 = 1024 := by decide
  omega
theorem Bn.pow {a : Nat} {x : Int} (h : Bn a x) : ∀ n : Nat, Bn (a * n + 1) (x ^ n)
  | 0 => by unfold Bn; rw [Int.pow_zero, Nat.mul_zero]; decide
  | n + 1 => by
    rw [Int.pow_succ, Nat.mul_succ, show a * n + a + 1 = (a * n + 1) + a by omega]
    exact (Bn.pow h n).mul h
theorem Bn.le {a : Nat} {x y : Int} (h : Bn a y) (h0 : 0 ≤ x) (h1 : x ≤ y) : Bn a x := by
  unfold Bn at *
  omega
/-! ### a law's box: an object of the store -/
def Bx {K : PySem.W.Frag} (s : Sto K) (r : Ref) (n : Int) : Prop := ∃ (g : Int) (f : Bool) (m c : Int), s.f r.a = some (.lst [.int g, .bl f, .int m, .int c]) ∧ 0 ≤ g ∧ 0 ≤ m ∧ m < 2147483647 ∧ 0 ≤ c ∧ c ≤ n
/-- nothing else has changed -/
def Only {K : PySem.W.Frag} (r : Ref) (s s' : Sto K) : Prop := ∀ b, b ≠ r.a → s'.f b = s.f b
section
variable {K : PySem.W.Frag} {s s' s'' : Sto K} {r : Ref} {n : Int}
theorem Only.refl : Only r s s := fun _ _ => rfl
theorem Only.trans (h : Only r s s') (g : Only r s' s'') : Only r s s'' := fun b e => (g b e).trans (h b e)
theorem Bx.mono {m : Int} (h : Bx s r n) (l : n ≤ m) : Bx s r m := by
  obtain ⟨g, f, m, c, h, h1, h2, h3, h4, h5⟩ := h
  exact ⟨g, f, m, c, h, h1, h2, h3, h4, by omega⟩
end
end Mir

/-! MirP: views as dicts of ints -/
namespace Mir
open PySem L2 Num
/-- one content changed -/
def sv (c : Int → Int) (i x y : Int) : Int := if y = i then x else c y
theorem putI_mk {hs : List Int} {c : Int → Int} {i x : Int} (h : i ∈ hs) : putI (mk hs c) i x = mk hs (sv c i x) := by
  unfold putI
  have : ((mk hs c).any fun kv => decide (kv.1 = i)) = true := List.any_eq_true.mpr ⟨(i, c i), mk_mem.mpr ⟨h, rfl⟩, decide_eq_true rfl⟩
  rw [if_pos this, mk_map]
  refine List.map_congr_left fun y hy => ?_
  unfold sv
  by_cases e : y = i
  · rw [if_pos e, if_pos e]
  · rw [if_neg e, if_neg e]
theorem putI_new {hs : List Int} {c : Int → Int} {i : Int} (h : i ∉ hs) : putI (mk hs c) i (c i) = mk (hs ++ [i]) c := by
  unfold putI
  rw [if_neg]
  · unfold mk
    rw [List.map_append]
    rfl
  · intro g
    obtain ⟨b, hb, e⟩ := List.any_eq_true.mp g
    have e := of_decide_eq_true e
    exact h (e ▸ (mk_mem.mp hb).1)
theorem mergeI_mk {hs : List Int} {c : Int → Int} (h : hs.Nodup) : mergeI (mk hs c) = mk hs c := by
  have go : ∀ (rest pre : List Int), (pre ++ rest).Nodup → (mk rest c).foldl (fun acc kv => putI acc kv.1 kv.2) (mk pre c) = mk (pre ++ rest) c := by
    intro rest
    induction rest with
    | nil => intro pre _; rw [List.append_nil]; rfl
    | cons i rest ih =>
      intro pre hn
      show (mk rest c).foldl _ (putI (mk pre c) i (c i)) = _
      have hi : i ∉ pre := fun hi => (List.nodup_append.mp hn).2.2 i hi i (List.mem_cons_self ..) rfl
      rw [putI_new hi, ih (pre ++ [i]) (by rw [List.append_assoc]; exact hn), List.append_assoc]
      rfl
  exact go hs [] h
theorem srtP_mk {hs : List Int} {c : Int → Int} (h : Srt hs) : srtP (mk hs c) = mk hs c := by
  refine (srtP_eq (List.Perm.refl _) ?_).symm
  unfold mk
  rw [List.pairwise_map]
  refine List.Pairwise.imp (fun {x y} hxy => ?_) h
  cases e : SrtO.lexB (y, c y) (x, c x) with
  | false => rfl
  | true =>
    exfalso
    rcases SrtO.lexB_iff.mp e with e | e
    · dsimp only at e; omega
    · have := e.1; dsimp only at this; omega
/-- writes, one by one -/
theorem put_all {hs : List Int} {u : Int → Int} : ∀ {L : List Int} {c : Int → Int}, (∀ i ∈ L, i ∈ hs) → (mk L u).foldl (fun acc kv => putI acc kv.1 kv.2) (mk hs c) = mk hs (done c L u)
  | [], c, _ => by rw [done_nil]; rfl
  | i :: L, c, h => by
    show (mk L u).foldl _ (putI (mk hs c) i (u i)) = _
    rw [putI_mk (h i (List.mem_cons_self ..)), put_all fun y hy => h y (List.mem_cons_of_mem _ hy)]
    exact congrArg (mk hs) done_cons
end Mir

/-! MirS: how long the texts of data are -/
namespace Mir
open PySem L2
theorem os_len (s : String) : (Str.ofString s).length = s.length := by
  show ((cpsOfBytes 0 0 s.toByteArray.data.toList).toArray).size = _
  rw [cpsOfBytes_string]
  simp only [List.size_toArray, List.length_map]
  exact String.length_toList
/-- it can be shown, in at most so many signs -/
def Shd (n : Nat) (d : PyData) : Prop := d.showable = true ∧ d.shown.length ≤ n
theorem Shd.mono {n m : Nat} {d : PyData} (h : Shd n d) (l : n ≤ m) : Shd m d := ⟨h.1, Nat.le_trans h.2 l⟩
theorem shd_int {i : Int} {k : Nat} (hk : 0 < k) (k2 : k ≤ 100) (h : i.natAbs < 10 ^ k) : Shd (k + 1) (.int i) := by
  refine ⟨?_, ?_⟩
  · refine decide_eq_true (log2_lt' (Nat.lt_of_lt_of_le h ?_) (by decide))
    refine Nat.le_trans (Nat.pow_le_pow_left (show 10 ≤ 2 ^ 4 by decide) k) ?_
    rw [← Nat.pow_mul]
    exact Nat.pow_le_pow_right (by decide) (by omega)
  · show (Str.ofString (toString i)).length ≤ _
    rw [os_len]
    cases i with
    | ofNat m =>
      have : (Nat.repr m).length ≤ k := (Nat.length_repr_le_iff hk).mpr h
      show (Nat.repr m).length ≤ _
      omega
    | negSucc m =>
      have : (Nat.repr (m + 1)).length ≤ k := (Nat.length_repr_le_iff hk).mpr h
      show ("-" ++ Nat.repr (m + 1)).length ≤ _
      rw [String.length_append]
      have : "-".length = 1 := by decide
      omega
theorem shd_all {n : Nat} : ∀ {xs : List PyData}, (∀ x ∈ xs, Shd n x) → PyData.showableAll xs = true ∧ ∀ t ∈ PyData.shownAll xs, t.length ≤ n
  | [], _ => ⟨by simp [PyData.showableAll], fun t h => by simp [PyData.shownAll] at h⟩
  | x :: xs, h => by
    have hx := h x (List.mem_cons_self ..)
    have ih := shd_all fun y hy => h y (List.mem_cons_of_mem _ hy)
    refine ⟨by simp [PyData.showableAll, hx.1, ih.1], fun t ht => ?_⟩
    rw [PyData.shownAll, List.mem_cons] at ht
    rcases ht with rfl | ht
    · exact hx.2
    · exact ih.2 t ht
theorem shownAll_len : ∀ xs : List PyData, (PyData.shownAll xs).length = xs.length
  | [] => by simp [PyData.shownAll]
  | x :: xs => by rw [PyData.shownAll, List.length_cons, shownAll_len xs]; rfl
theorem text_len {n : Nat} : ∀ {ts : List Str} {k : Nat} {acc : Str}, (∀ t ∈ ts, t.length ≤ n) → (textFrom k acc ts).length ≤ acc.length + ts.length * (n + 2)
  | [], k, acc, _ => by show acc.length ≤ _; omega
  | t :: ts, k, acc, h => by
    have ht := h t (List.mem_cons_self ..)
    have ih := text_len (ts := ts) (k := k + 1) (acc := acc ++ (Str.ofString (if k > 0 then ", " else "")) ++ t) fun y hy => h y (List.mem_cons_of_mem _ hy)
    show (textFrom (k + 1) (acc ++ (Str.ofString (if k > 0 then ", " else "")) ++ t) ts).length ≤ _
    rw [strLen_append, strLen_append] at ih
    have e : (Str.ofString (if k > 0 then ", " else "")).length ≤ 2 := by split <;> rw [os_len] <;> decide
    rw [List.length_cons, Nat.add_mul]
    omega
theorem join_len {n : Nat} : ∀ {ts : List Str}, (∀ t ∈ ts, t.length ≤ n) → ((Str.ofString ", ").join ts).length ≤ ts.length * (n + 2)
  | [], _ => by show Str.length _ ≤ _; unfold Str.join; exact Nat.zero_le _
  | [x], h => by
    have := h x (List.mem_cons_self ..)
    show x.length ≤ 1 * (n + 2)
    omega
  | x :: y :: ts, h => by
    have hx := h x (List.mem_cons_self ..)
    have ih := join_len (ts := y :: ts) fun z hz => h z (List.mem_cons_of_mem _ hz)
    show (x ++ Str.ofString ", " ++ Str.join _ (y :: ts)).length ≤ _
    rw [strLen_append, strLen_append, os_len]
    have : ", ".length = 2 := by decide
    rw [List.length_cons, Nat.add_mul]
    omega
theorem shd_list {n : Nat} {xs : List PyData} (h : ∀ x ∈ xs, Shd n x) : Shd (xs.length * (n + 2) + 4) (.list xs) := by
  obtain ⟨h1, h2⟩ := shd_all h
  refine ⟨h1, ?_⟩
  show (textFrom 0 (Str.ofString "[") (PyData.shownAll xs) ++ Str.ofString "]").length ≤ _
  rw [strLen_append, os_len]
  have h3 := text_len (k := 0) (acc := Str.ofString "[") h2
  rw [os_len, shownAll_len] at h3
  have e1 : "[".length = 1 := by decide
  have e2 : "]".length = 1 := by decide
  omega
theorem shd_tup {n : Nat} {xs : List PyData} (h : ∀ x ∈ xs, Shd n x) : Shd (xs.length * (n + 2) + 4) (.tuple xs) := by
  obtain ⟨h1, h2⟩ := shd_all h
  refine ⟨h1, ?_⟩
  show (Str.ofString "(" ++ Str.join (Str.ofString ", ") (PyData.shownAll xs) ++ Str.ofString (if ((PyData.shownAll xs).length == 1) = true then ",)" else ")")).length ≤ _
  rw [strLen_append, strLen_append, os_len, os_len]
  have h3 := join_len h2
  rw [shownAll_len] at h3
  have e1 : "(".length = 1 := by decide
  have e2 : (if ((PyData.shownAll xs).length == 1) = true then ",)" else ")" : String).length ≤ 2 := by split <;> decide
  omega
section
variable {α β : Type} [Rp α] [Dt α] [Rp β] [Dt β]
theorem rprDok_of {n : Nat} {x : α} (h : Shd n (Dt.dt x)) (hn : n ≤ 16777216) : rprDok x = true := by
  unfold rprDok
  rw [h.1, Bool.true_and]
  exact decide_eq_true (Nat.le_trans h.2 hn)
theorem shd_I {i : Int} (h0 : -1000000000 < i) (h1 : i < 1000000000) : Shd 10 (Dt.dt i) := shd_int (k := 9) (by decide) (by decide) (by
  have : (10 : Nat) ^ 9 = 1000000000 := by decide
  omega)
theorem shd_L {n : Nat} {xs : List α} (h : ∀ x ∈ xs, Shd n (Dt.dt x)) : Shd (xs.length * (n + 2) + 4) (Dt.dt xs) := by
  have := shd_list (n := n) (xs := xs.map Dt.dt) fun d hd => by
    obtain ⟨x, hx, rfl⟩ := List.mem_map.mp hd
    exact h x hx
  rw [List.length_map] at this
  exact this
theorem shd_T {n : Nat} {xs : List α} (h : ∀ x ∈ xs, Shd n (Dt.dt x)) : Shd (xs.length * (n + 2) + 4) (Dt.dt (Tu.mk xs)) := by
  have := shd_tup (n := n) (xs := xs.map Dt.dt) fun d hd => by
    obtain ⟨x, hx, rfl⟩ := List.mem_map.mp hd
    exact h x hx
  rw [List.length_map] at this
  exact this
theorem shd_Q {n : Nat} {t : Bool} {xs : List α} (h : ∀ x ∈ xs, Shd n (Dt.dt x)) : Shd (xs.length * (n + 2) + 4) (Dt.dt (Sq.mk t xs)) := by
  cases t with
  | true => exact shd_T h
  | false => exact shd_L h
theorem shd_P {n : Nat} {x : α × β} (h1 : Shd n (Dt.dt x.1)) (h2 : Shd n (Dt.dt x.2)) : Shd (2 * (n + 2) + 4) (Dt.dt x) := by
  have := shd_tup (n := n) (xs := [Dt.dt x.1, Dt.dt x.2]) fun d hd => by
    simp only [List.mem_cons, List.not_mem_nil, or_false] at hd
    rcases hd with rfl | rfl
    · exact h1
    · exact h2
  exact this
end
end Mir

/-! MirT: comprehensions that draw; boxes beside other objects -/
namespace Mir
open PySem L2
/-! comprehensions that draw -/
section
variable {S α β : Type}
theorem st_cmGo2 {f : α → Mn S β} {P : α → β → Prop} {I : Nat → S → Prop} {Q : List β → S → Prop} : ∀ {xs : List α} {acc : List β} {s : S}, (∀ x ∈ xs, ∀ n s, I (n + 1) s → (f x s).st fun y s' => P x y ∧ I n s') → I xs.length s → (∀ ys s', All2 P xs ys → I 0 s' → Q (acc ++ ys) s') → (cmGo xs acc (fun _ => mp true) f s).st Q
  | [], acc, s, _, h, q => by
    have := q [] s .nil h
    rw [List.append_nil] at this
    exact ⟨this⟩
  | x :: xs, acc, s, step, h, q => by
    unfold cmGo
    rw [st_mb, st_mp, st_mi]
    refine ⟨fun _ => ?_, fun g => absurd g (by decide)⟩
    rw [st_mb]
    refine R.st_imp (step x (List.mem_cons_self ..) _ s h) fun y s' ⟨p, i⟩ => st_cmGo2 (fun z hz => step z (List.mem_cons_of_mem _ hz)) i fun ys s'' a i2 => ?_
    have := q (y :: ys) s'' (.cons p a) i2
    rw [List.append_assoc]
    exact this
theorem st_cmS {f : α → Mn S β} {P : α → β → Prop} {I : Nat → S → Prop} {Q : List β → S → Prop} {xs : List α} {s : S} (hl : xs.length ≤ 16000000) (step : ∀ x ∈ xs, ∀ n s, I (n + 1) s → (f x s).st fun y s' => P x y ∧ I n s') (h : I xs.length s) (q : ∀ ys s', All2 P xs ys → I 0 s' → Q ys s') : (cmP xs (fun _ => mp true) f s).st Q := by
  unfold cmP
  rw [st_mb, st_mc]
  exact ⟨decide_eq_true hl, st_cmGo2 step h fun ys s' a i => q ys s' a i⟩
theorem all2_mem {α β : Type} {P R : α → β → Prop} : ∀ {xs : List α} {ys : List β}, All2 P xs ys → (∀ x y, x ∈ xs → P x y → R x y) → All2 R xs ys
  | _, _, .nil, _ => .nil
  | _, _, .cons p a, f => .cons (f _ _ (List.mem_cons_self ..) p) (all2_mem a fun x y hx => f x y (List.mem_cons_of_mem _ hx))
theorem rng_getD {α : Type} {d : α} : ∀ xs : List α, (rng 0 xs.length).map (fun i : Int => xs.getD i.toNat d) = xs := fun xs => by
  apply List.ext_getElem
  · rw [List.length_map, rng_length]
  · intro i h1 h2
    rw [List.getElem_map]
    have : (rng 0 xs.length)[i]'(by rw [rng_length]; exact h2) = (i : Int) := by
      unfold rng
      simp
    rw [this, Int.toNat_natCast, List.getD_eq_getElem?_getD, List.getElem?_eq_getElem h2]
    rfl
end
section
variable {K : PySem.W.Frag} {s s' s'' : Sto K} {r kp : Ref} {N : Int}
/-- only two objects change -/
def Only2 (r kp : Ref) (s s' : Sto K) : Prop := ∀ b, b ≠ r.a → b ≠ kp.a → s'.f b = s.f b
theorem Only2.refl : Only2 r kp s s := fun _ _ _ => rfl
theorem Only2.trans (h : Only2 r kp s s') (g : Only2 r kp s' s'') : Only2 r kp s s'' := fun b e1 e2 => (g b e1 e2).trans (h b e1 e2)
theorem Only2.of (h : Only r s s') : Only2 r kp s s' := fun b e1 _ => h b e1
theorem Bx.put {x : Addr} {o : Ob} (B : Bx s r N) (e : r.a ≠ x) : Bx (s.put x o) r N := by
  obtain ⟨g, f, m, c, h, h1⟩ := B
  exact ⟨g, f, m, c, by rw [Sto.put_ne e]; exact h, h1⟩
end
end Mir

namespace L40
open PySem PySem.Spec PyProof.Rows L2 Mir
abbrev FnP (K : PySem.W.Frag) (x : Str) (st : Stmt) (f : Addr) (fd : FuncData) : Prop := FunD K x x (defArgs st) (defBody st) (defScope st) [] [] f fd
section
variable {P : Program} {w : World} {K : PySem.W.Frag} {mg : Str → Option Value} {base : Heap}
def m_is_whole (value : Int) : Mn Unit Bool :=
  (mp ((true && (!false)) : Bool))
abbrev sp_is_whole (K : PySem.W.Frag) : Sp := Prom (rIm K) (S := Unit) (fun i : Int => [.im (pv K i)]) fun i => m_is_whole i
theorem len_is_whole : ∀ vs H Q E, sp_is_whole K vs H Q E → vs.length = 1 := prom_len (S := Unit) (Ret := (rIm K)) (As := fun i : Int => [.im (pv K i)]) (m := fun i => m_is_whole i) fun _ => rfl
theorem sc_is_whole : FnScope ["value"] ["value"] (defScope (top 6)) := ⟨rfl, rfl, rfl, by decide +kernel, rfl, by decide +kernel, by decide +kernel⟩
theorem fo_is_whole {f : Addr} {fd : FuncData} (F : FnP K "is_whole" (top 6) f fd) (b_bool : mg "bool" = none) (b_int : mg "int" = none) (b_isinstance : mg "isinstance" = none) : FnOk P w K mg base CX0 1 f fd ["value"] (sp_is_whole K) := by
  refine F.ok sc_is_whole (len_is_whole (K := K)) (fun cdv A outer s H vs Q E hr h => ?_)
  have hl : vs.length = 1 := len_is_whole (K := K) vs H Q E h
  match vs, hl, h with
  | [v0], _, h => exact ⟨_, PSs.nox ((pss_one (ps_ret (pe_and (pe_callB call_isi rfl b_isinstance bt_isinstance (pa_cons (L2.pv 0) (pa_cons (pe_bltn (v := .ty "int") rfl b_int bt_int rfl) pa_nil))) (pe_one (pe_not (pe_callB call_isi rfl b_isinstance bt_isinstance (pa_cons (L2.pv 0) (pa_cons (pe_bltn (v := .ty "bool") rfl b_bool bt_bool rfl) pa_nil))))))))), prom_ok (n := 1) (S := Unit) (Ret := (rIm K)) (As := fun i : Int => [.im (pv K i)]) (m := fun i => m_is_whole i) 0 (fun _ => rfl) rfl (fun value => (show RN (rIm K) _ (fun (s : Unit) => [.im (pv K value)]) (m_is_whole value) (fun (s : Unit) => [.no]) from (rn_of (rt_ret (em_pure fun _ => (ep_andV (ep_cb (ap_cons (ep_var rfl) (ap_cons ep_ty ap_nil)) (c_isi (b := true) (t := "int") ty_int (by decide +kernel))) fun _ => (ep_notV (ep_cb (ap_cons (ep_var rfl) (ap_cons ep_ty ap_nil)) (c_isi (b := false) (t := "int") ty_int (by decide +kernel)))))) fun s => (.cons (.no _) .nil))))) h⟩
theorem ok_is_whole {f : Addr} {fd : FuncData} (F : FnP K "is_whole" (top 6) f fd) (hg : mg "is_whole" = some (.ref f)) (b_bool : mg "bool" = none) (b_int : mg "int" = none) (b_isinstance : mg "isinstance" = none) : Cal P w K mg base 1 "is_whole" ["value"] (sp_is_whole K) := ⟨f, fd, fo_is_whole F b_bool b_int b_isinstance, hg, F.kp, F.bindsN fun _ _ _ _ _ _ us hl => match us, hl with | [_], _ => rfl⟩
def m_is_between (value : Int) (least : Int) (most : Int) : Mn Unit Bool :=
  (mb (mu (m_is_whole value)) fun b1 => mi b1 (mp ((decide (least ≤ value) && decide (value ≤ most)) : Bool)) (mp false))
abbrev sp_is_between (K : PySem.W.Frag) : Sp := Prom (rIm K) (S := Unit) (fun i : Int × Int × Int => [.im (pv K i.1), .im (pv K i.2.1), .im (pv K i.2.2)]) fun i => m_is_between i.1 i.2.1 i.2.2
theorem len_is_between : ∀ vs H Q E, sp_is_between K vs H Q E → vs.length = 3 := prom_len (S := Unit) (Ret := (rIm K)) (As := fun i : Int × Int × Int => [.im (pv K i.1), .im (pv K i.2.1), .im (pv K i.2.2)]) (m := fun i => m_is_between i.1 i.2.1 i.2.2) fun _ => rfl
theorem sc_is_between : FnScope ["value", "least", "most"] ["value", "least", "most"] (defScope (top 7)) := ⟨rfl, rfl, rfl, by decide +kernel, rfl, by decide +kernel, by decide +kernel⟩
theorem fo_is_between {f : Addr} {fd : FuncData} (F : FnP K "is_between" (top 7) f fd) (C_is_whole : Cal P w K mg base 1 "is_whole" ["value"] (sp_is_whole K)) : FnOk P w K mg base CX0 2 f fd ["value", "least", "most"] (sp_is_between K) := by
  obtain ⟨f_is_whole, fd_is_whole, G_is_whole, g_is_whole, kp_is_whole, bi_is_whole⟩ := C_is_whole.ex
  refine F.ok sc_is_between (len_is_between (K := K)) (fun cdv A outer s H vs Q E hr h => ?_)
  have hl : vs.length = 3 := len_is_between (K := K) vs H Q E h
  match vs, hl, h with
  | [v0, v1, v2], _, h => exact ⟨_, PSs.nox ((pss_one (ps_ret (pe_and (pe_call G_is_whole (hr.mono (Nat.le_of_ble_eq_true rfl)) rfl g_is_whole kp_is_whole bi_is_whole .nil pass0 (pa_cons (L2.pv 0) pa_nil)) (pe_one (pe_chain op_le op_le (L2.pv 1) (L2.pv 0) (L2.pv 2))))))), prom_ok (n := 3) (S := Unit) (Ret := (rIm K)) (As := fun i : Int × Int × Int => [.im (pv K i.1), .im (pv K i.2.1), .im (pv K i.2.2)]) (m := fun i => m_is_between i.1 i.2.1 i.2.2) 0 (fun _ => rfl) rfl (fun (value, least, most) => (show RN (rIm K) _ (fun (s : Unit) => [.im (pv K value), .im (pv K least), .im (pv K most)]) (m_is_between value least most) (fun (s : Unit) => [.no, .no, .no]) from (rn_of (rt_ret (em_andV (em_of_eo (eo_call0 (i := value) (ps := [pv K value]) (fun _ => (ap_cons (ep_var rfl) ap_nil)) rfl)) (em_pure fun _ => (ep_chain (ep_var rfl) (ep_var rfl) (ep_var rfl) o_le o_le))) fun s => (.cons (.no _) (.cons (.no _) (.cons (.no _) .nil))))))) h⟩
theorem ok_is_between {f : Addr} {fd : FuncData} (F : FnP K "is_between" (top 7) f fd) (hg : mg "is_between" = some (.ref f)) (C_is_whole : Cal P w K mg base 1 "is_whole" ["value"] (sp_is_whole K)) : Cal P w K mg base 2 "is_between" ["value", "least", "most"] (sp_is_between K) := ⟨f, fd, fo_is_between F C_is_whole, hg, F.kp, F.bindsN fun _ _ _ _ _ _ us hl => match us, hl with | [_, _, _], _ => rfl⟩
def m_is_list (value : (Sq Int)) : Mn Unit Bool :=
  (mp true)
abbrev sp_is_list (K : PySem.W.Frag) : Sp := Prom (rIm K) (S := Unit) (fun i : (Sq Int) => [.im (pv K i)]) fun i => m_is_list i
theorem len_is_list : ∀ vs H Q E, sp_is_list K vs H Q E → vs.length = 1 := prom_len (S := Unit) (Ret := (rIm K)) (As := fun i : (Sq Int) => [.im (pv K i)]) (m := fun i => m_is_list i) fun _ => rfl
theorem sc_is_list : FnScope ["value"] ["value"] (defScope (top 8)) := ⟨rfl, rfl, rfl, by decide +kernel, rfl, by decide +kernel, by decide +kernel⟩
theorem fo_is_list {f : Addr} {fd : FuncData} (F : FnP K "is_list" (top 8) f fd) (b_isinstance : mg "isinstance" = none) (b_list : mg "list" = none) (b_tuple : mg "tuple" = none) : FnOk P w K mg base CX0 1 f fd ["value"] (sp_is_list K) := by
  refine F.ok sc_is_list (len_is_list (K := K)) (fun cdv A outer s H vs Q E hr h => ?_)
  have hl : vs.length = 1 := len_is_list (K := K) vs H Q E h
  match vs, hl, h with
  | [v0], _, h => exact ⟨_, PSs.nox ((pss_one (ps_ret (pe_callB call_isiT rfl b_isinstance bt_isinstance (pa_cons (L2.pv 0) (pa_cons (pe_tup (pa_cons (pe_bltn (v := .ty "list") rfl b_list bt_list rfl) (pa_cons (pe_bltn (v := .ty "tuple") rfl b_tuple bt_tuple rfl) pa_nil))) pa_nil)))))), prom_ok (n := 1) (S := Unit) (Ret := (rIm K)) (As := fun i : (Sq Int) => [.im (pv K i)]) (m := fun i => m_is_list i) 0 (fun _ => rfl) rfl (fun value => (show RN (rIm K) _ (fun (s : Unit) => [.im (pv K value)]) (m_is_list value) (fun (s : Unit) => [.no]) from (rn_of (rt_ret (em_pure fun _ => (ep_cb (ap_cons (ep_var rfl) (ap_cons (ep_ty2 (ap_cons ep_ty (ap_cons ep_ty ap_nil))) ap_nil)) c_isi2Sq)) fun s => (.cons (.no _) .nil))))) h⟩
theorem ok_is_list {f : Addr} {fd : FuncData} (F : FnP K "is_list" (top 8) f fd) (hg : mg "is_list" = some (.ref f)) (b_isinstance : mg "isinstance" = none) (b_list : mg "list" = none) (b_tuple : mg "tuple" = none) : Cal P w K mg base 1 "is_list" ["value"] (sp_is_list K) := ⟨f, fd, fo_is_list F b_isinstance b_list b_tuple, hg, F.kp, F.bindsN fun _ _ _ _ _ _ us hl => match us, hl with | [_], _ => rfl⟩
def m_check_few (view : (Sv Int)) : Mn Unit Unit :=
  (mb (mb (mb (mu (m_is_list ((Sq.mk view.t view.l) : (Sq Int)))) fun b2 => mp (!b2)) fun b3 => mi b3 (mp true) (mp (!(decide ((1 : Int) ≤ (((Sq.mk view.t view.l).l.length : Nat) : Int)) && decide ((((Sq.mk view.t view.l).l.length : Nat) : Int) ≤ (64 : Int)))))) fun b => mi b
    mbad
    (mb (mb (mb (mb (mb (mp (Sq.mk view.t view.l).l) fun xs => cmP xs (fun (a4 : Int) => (mp true)) fun a4 => (mu (m_is_between a4 ((0 : Int) : Int) ((996 : Int) : Int)))) fun x_5 => mb (mp ()) fun z6 => mp (x_5, z6)) fun z7 => mp (z7.1.all id)) fun b8 => mp (!b8)) fun b => mi b
    mbad
    (mp ())))
abbrev sp_check_few (K : PySem.W.Frag) : Sp := Prom (rIm K) (S := Unit) (fun i : (Sv Int) => [.im (pv K i)]) fun i => m_check_few i
theorem len_check_few : ∀ vs H Q E, sp_check_few K vs H Q E → vs.length = 1 := prom_len (S := Unit) (Ret := (rIm K)) (As := fun i : (Sv Int) => [.im (pv K i)]) (m := fun i => m_check_few i) fun _ => rfl
theorem sc_check_few : FnScope ["view", "content"] ["view"] (defScope (top 12)) := ⟨rfl, rfl, rfl, by decide +kernel, rfl, by decide +kernel, by decide +kernel⟩
theorem fo_check_few {f : Addr} {fd : FuncData} (F : FnP K "check_few" (top 12) f fd) (b_all : mg "all" = none) (b_len : mg "len" = none) (c_MOST_CONTENT : ∃ t, mg "MOST_CONTENT" = some (.int 996 t)) (c_MOST_SEEN : ∃ t, mg "MOST_SEEN" = some (.int 64 t)) (C_is_list : Cal P w K mg base 1 "is_list" ["value"] (sp_is_list K)) (C_is_between : Cal P w K mg base 2 "is_between" ["value", "least", "most"] (sp_is_between K)) : FnOk P w K mg base CX0 3 f fd ["view"] (sp_check_few K) := by
  obtain ⟨t_MOST_CONTENT, c_MOST_CONTENT⟩ := c_MOST_CONTENT
  obtain ⟨t_MOST_SEEN, c_MOST_SEEN⟩ := c_MOST_SEEN
  obtain ⟨f_is_list, fd_is_list, G_is_list, g_is_list, kp_is_list, bi_is_list⟩ := C_is_list.ex
  obtain ⟨f_is_between, fd_is_between, G_is_between, g_is_between, kp_is_between, bi_is_between⟩ := C_is_between.ex
  refine F.ok sc_check_few (len_check_few (K := K)) (fun cdv A outer s H vs Q E hr h => ?_)
  have hl : vs.length = 1 := len_check_few (K := K) vs H Q E h
  match vs, hl, h with
  | [v0], _, h => exact ⟨_, PSs.nox ((pss_cons (ps_if (PW.pt (pw_or (pt_not (pt_val (pe_call G_is_list (hr.mono (Nat.le_of_ble_eq_true rfl)) rfl g_is_list kp_is_list bi_is_list .nil pass0 (pa_cons (L2.pv 0) pa_nil)))) (pw_or1 (pt_not (pt_chain op_le op_le pe_int (pe_callB call_len_seq rfl b_len bt_len (pa_cons (L2.pv 0) pa_nil)) (pe_glob (v := .int 64) rfl c_MOST_SEEN ⟨_, rfl⟩)))))) (pss_one ps_never) pss_nil) (pss_one (ps_if (pt_not (pt_val (pe_callB (cr_all rfl) rfl b_all bt_all (pa_cons (pe_lc (own := [("content", 1)]) rfl sc_check_few.nd (pi_alt (pi_list (L2.pv 0)) (pi_tup (L2.pv 0))) (blkOk_by (own := [("content", 1)]) (N := ["view", "content"]) (sc := defScope (top 12)) (by decide +kernel)) (fun _ _ _ _ _ => (pg_name (i := 1) sc_check_few.nd rfl (Or.inl rfl))) (fun _ _ _ _ _ => pts_nil) (fun _ _ _ _ _ => (pe_call G_is_between (hr.mono (Nat.le_of_ble_eq_true rfl)) rfl g_is_between kp_is_between bi_is_between .nil pass0 (pa_cons (L2.pv 1) (pa_cons pe_int (pa_cons (pe_glob (v := .int 996) rfl c_MOST_CONTENT ⟨_, rfl⟩) pa_nil)))))) pa_nil)))) (pss_one ps_never) pss_nil)))), prom_ok (n := 1) (S := Unit) (Ret := (rIm K)) (As := fun i : (Sv Int) => [.im (pv K i)]) (m := fun i => m_check_few i) 1 (fun _ => rfl) rfl (fun view => (show RN (rIm K) _ (fun (s : Unit) => [.im (pv K view), .no]) (m_check_few view) (fun (s : Unit) => [.no, .no]) from ((rn_ifr (tm_or (tm_not (tm_B (em_of_eo (eo_call0 (i := ((Sq.mk view.t view.l) : (Sq Int))) (ps := [pv K ((Sq.mk view.t view.l) : (Sq Int))]) (fun _ => (ap_cons (ep_svQ (ep_var rfl)) ap_nil)) rfl)))) (tm_pure fun _ => (tp_not (tp_test (ep_chain (ep_int (K := K)) (ep_cb (ap_cons (ep_svQ (ep_var rfl)) ap_nil) c_lenSq) (ep_int (K := K)) o_le o_le))))) rt_never (rn_if (tm_not (tm_B (em_cb (f := fun (z7 : (List Bool) × Unit) => (z7.1.all id)) (am_cons (em_lc (vs := [1]) (Γ := (fun (s : Unit) => [.im (pv K view), .no])) (Γx := fun (a4 : Int) (s : Unit) => [.im (pv K view), .im (pv K a4)]) (js := [1]) (im_sq fun _ => (ep_svQ (ep_var rfl))) (fun _ => rfl) (fun a4 s => (gt_name (Γ := [.im (pv K view), .no]) (i := 1) (Γ' := [.im (pv K view), .im (pv K a4)]) rfl rfl)) rfl (fun a4 => tm_yes) (fun a4 => (em_of_eo (eo_call0 (i := (a4, ((0 : Int) : Int), ((996 : Int) : Int))) (ps := [pv K a4, pv K ((0 : Int) : Int), pv K ((996 : Int) : Int)]) (fun _ => (ap_cons (ep_var rfl) (ap_cons (ep_int (K := K)) (ap_cons (ep_int (K := K)) ap_nil)))) rfl))) fun a4 s => (.cons (.rfl _) (.cons (.no _) .nil))) am_nil) fun _ => c_all))) (rn_of rt_never) (rn_next fun s => (.cons (.no _) (.cons (.rfl _) .nil)))))))) h⟩
theorem ok_check_few {f : Addr} {fd : FuncData} (F : FnP K "check_few" (top 12) f fd) (hg : mg "check_few" = some (.ref f)) (b_all : mg "all" = none) (b_len : mg "len" = none) (c_MOST_CONTENT : ∃ t, mg "MOST_CONTENT" = some (.int 996 t)) (c_MOST_SEEN : ∃ t, mg "MOST_SEEN" = some (.int 64 t)) (C_is_list : Cal P w K mg base 1 "is_list" ["value"] (sp_is_list K)) (C_is_between : Cal P w K mg base 2 "is_between" ["value", "least", "most"] (sp_is_between K)) : Cal P w K mg base 3 "check_few" ["view"] (sp_check_few K) := ⟨f, fd, fo_check_few F b_all b_len c_MOST_CONTENT c_MOST_SEEN C_is_list C_is_between, hg, F.kp, F.bindsN fun _ _ _ _ _ _ us hl => match us, hl with | [_], _ => rfl⟩
def m_following (value : Int) : Mn Unit Int :=
  (mp (((value + (1 : Int)) % (3 : Int)) : Int))
abbrev sp_following (K : PySem.W.Frag) : Sp := Prom (rIm K) (S := Unit) (fun i : Int => [.im (pv K i)]) fun i => m_following i
theorem len_following : ∀ vs H Q E, sp_following K vs H Q E → vs.length = 1 := prom_len (S := Unit) (Ret := (rIm K)) (As := fun i : Int => [.im (pv K i)]) (m := fun i => m_following i) fun _ => rfl
theorem sc_following : FnScope ["value"] ["value"] (defScope (top 13)) := ⟨rfl, rfl, rfl, by decide +kernel, rfl, by decide +kernel, by decide +kernel⟩
theorem fo_following {f : Addr} {fd : FuncData} (F : FnP K "following" (top 13) f fd) : FnOk P w K mg base CX0 1 f fd ["value"] (sp_following K) := by
  refine F.ok sc_following (len_following (K := K)) (fun cdv A outer s H vs Q E hr h => ?_)
  have hl : vs.length = 1 := len_following (K := K) vs H Q E h
  match vs, hl, h with
  | [v0], _, h => exact ⟨_, PSs.nox ((pss_one (ps_ret (pe_op op_mod (pe_op op_add (L2.pv 0) pe_int) pe_int)))), prom_ok (n := 1) (S := Unit) (Ret := (rIm K)) (As := fun i : Int => [.im (pv K i)]) (m := fun i => m_following i) 0 (fun _ => rfl) rfl (fun value => (show RN (rIm K) _ (fun (s : Unit) => [.im (pv K value)]) (m_following value) (fun (s : Unit) => [.no]) from (rn_of (rt_ret (em_pure fun _ => (ep_op (ep_op (ep_var rfl) (ep_int (K := K)) o_add) (ep_int (K := K)) (o_mod rfl))) fun s => (.cons (.no _) .nil))))) h⟩
theorem ok_following {f : Addr} {fd : FuncData} (F : FnP K "following" (top 13) f fd) (hg : mg "following" = some (.ref f)) : Cal P w K mg base 1 "following" ["value"] (sp_following K) := ⟨f, fd, fo_following F, hg, F.kp, F.bindsN fun _ _ _ _ _ _ us hl => match us, hl with | [_], _ => rfl⟩
def m_is_left_at (view : (Sv Int)) (value : Int) (at_ : Int) : Mn Unit Bool :=
  (mb (mb (mb (mp none) fun lo => mb (mb (mp at_) fun i9 => mp (some i9)) fun hi => mp (Sv.mk view.t (cutL view.l lo hi))) fun x_14 => mb (mb (mb (mb (mp ((at_ + (1 : Int)) : Int)) fun i10 => mp (some i10)) fun lo => mb (mp none) fun hi => mp (Sv.mk view.t (cutL view.l lo hi))) fun x_12 => mb (mp ()) fun z13 => mp (x_12, z13)) fun z15 => mp (x_14, z15)) fun z11 =>
  (mb (mb (mb (mu (m_following value)) fun k16 => mp ((z11.1.l.count k16 : Nat) : Int)) fun x_17 => mp (decide (x_17 = (((Sq.mk z11.1.t z11.1.l).l.length : Nat) : Int)))) fun b22 => mi b22 (mb (mb (mp value) fun k19 => mp ((z11.2.1.l.count k19 : Nat) : Int)) fun x_20 => mp (decide (x_20 = (((Sq.mk z11.2.1.t z11.2.1.l).l.length : Nat) : Int)))) (mp false)))
abbrev sp_is_left_at (K : PySem.W.Frag) : Sp := Prom (rIm K) (S := Unit) (fun i : (Sv Int) × Int × Int => [.im (pv K i.1), .im (pv K i.2.1), .im (pv K i.2.2)]) fun i => m_is_left_at i.1 i.2.1 i.2.2
theorem len_is_left_at : ∀ vs H Q E, sp_is_left_at K vs H Q E → vs.length = 3 := prom_len (S := Unit) (Ret := (rIm K)) (As := fun i : (Sv Int) × Int × Int => [.im (pv K i.1), .im (pv K i.2.1), .im (pv K i.2.2)]) (m := fun i => m_is_left_at i.1 i.2.1 i.2.2) fun _ => rfl
theorem sc_is_left_at : FnScope ["view", "value", "at", "ahead", "behind"] ["view", "value", "at"] (defScope (top 14)) := ⟨rfl, rfl, rfl, by decide +kernel, rfl, by decide +kernel, by decide +kernel⟩
theorem fo_is_left_at {f : Addr} {fd : FuncData} (F : FnP K "is_left_at" (top 14) f fd) (b_len : mg "len" = none) (C_following : Cal P w K mg base 1 "following" ["value"] (sp_following K)) : FnOk P w K mg base CX0 2 f fd ["view", "value", "at"] (sp_is_left_at K) := by
  obtain ⟨f_following, fd_following, G_following, g_following, kp_following, bi_following⟩ := C_following.ex
  refine F.ok sc_is_left_at (len_is_left_at (K := K)) (fun cdv A outer s H vs Q E hr h => ?_)
  have hl : vs.length = 3 := len_is_left_at (K := K) vs H Q E h
  match vs, hl, h with
  | [v0, v1, v2], _, h => exact ⟨_, PSs.nox ((pss_cons (ps_par (i := 3) (j := 4) rfl sc_is_left_at.nd rfl rfl (by decide) rfl rfl (pa_cons (pe_slice sl_sv (L2.pv 0) po_none (po_some (L2.pv 2))) (pa_cons (pe_slice sl_sv (L2.pv 0) (po_some (pe_op op_add (L2.pv 2) pe_int)) po_none) pa_nil)) rfl) (pss_one (ps_ret (pe_and (pe_cmpR op_eq (TC.pe_altE (pe_bm PySem.F.plainAttrs_list PySem.F.slot_list_count PySem.F.type_list_count mt_lcount (L2.pv 3) (pa_cons (pe_call G_following (hr.mono (Nat.le_of_ble_eq_true rfl)) rfl g_following kp_following bi_following .nil pass0 (pa_cons (L2.pv 1) pa_nil)) pa_nil)) (TC.pe_bmT PySem.F.plainAttrs_tuple PySem.F.slot_tuple_count PySem.F.type_tuple_count TC.mt_tcount (L2.pv 3) (pa_cons (pe_call G_following (hr.mono (Nat.le_of_ble_eq_true rfl)) rfl g_following kp_following bi_following .nil pass0 (pa_cons (L2.pv 1) pa_nil)) pa_nil))) (pe_callB call_len_seq rfl b_len bt_len (pa_cons (L2.pv 3) pa_nil)) (nomark _)) (pe_one (pe_cmpR op_eq (TC.pe_altE (pe_bm PySem.F.plainAttrs_list PySem.F.slot_list_count PySem.F.type_list_count mt_lcount (L2.pv 4) (pa_cons (L2.pv 1) pa_nil)) (TC.pe_bmT PySem.F.plainAttrs_tuple PySem.F.slot_tuple_count PySem.F.type_tuple_count TC.mt_tcount (L2.pv 4) (pa_cons (L2.pv 1) pa_nil))) (pe_callB call_len_seq rfl b_len bt_len (pa_cons (L2.pv 4) pa_nil)) (nomark _)))))))), prom_ok (n := 3) (S := Unit) (Ret := (rIm K)) (As := fun i : (Sv Int) × Int × Int => [.im (pv K i.1), .im (pv K i.2.1), .im (pv K i.2.2)]) (m := fun i => m_is_left_at i.1 i.2.1 i.2.2) 2 (fun _ => rfl) rfl (fun (view, value, at_) => (show RN (rIm K) _ (fun (s : Unit) => [.im (pv K view), .im (pv K value), .im (pv K at_), .no, .no]) (m_is_left_at view value at_) (fun (s : Unit) => [.no, .no, .no, .no, .no]) from (rn_of (rt_seq (rp_asg2 (Γ' := fun (z11 : (Sv Int) × (Sv Int) × Unit) (s : Unit) => [.im (pv K view), .im (pv K value), .im (pv K at_), .im (pv K z11.1), .im (pv K z11.2.1)]) (ao_m (em_slSv (fun _ => (ep_var rfl)) pm_no (pm_i (em_pure fun _ => (ep_var rfl)))) (ao_m (em_slSv (fun _ => (ep_var rfl)) (pm_i (em_pure fun _ => (ep_op (ep_var rfl) (ep_int (K := K)) o_add))) pm_no) ao_nil)) (fun _ => asg_ok rfl) (fun _ => rfl) (fun _ => rfl) fun _ _ => rfl) fun z11 => (rt_ret (em_andV (em_opr (g := fun (u : Int) (v : Int) => decide (u = v)) (em_cnt (fun _ => (ep_var rfl)) (em_of_eo (eo_call0 (i := value) (ps := [pv K value]) (fun _ => (ap_cons (ep_var rfl) ap_nil)) rfl))) (fun _ => (ep_cb (ap_cons (ep_svQ (ep_var rfl)) ap_nil) c_lenSq)) fun _ => o_eq) (em_opr (g := fun (u : Int) (v : Int) => decide (u = v)) (em_cnt (fun _ => (ep_var rfl)) (em_pure fun _ => (ep_var rfl))) (fun _ => (ep_cb (ap_cons (ep_svQ (ep_var rfl)) ap_nil) c_lenSq)) fun _ => o_eq)) fun s => (.cons (.no _) (.cons (.no _) (.cons (.no _) (.cons (.no _) (.cons (.no _) .nil)))))))))) h⟩
theorem ok_is_left_at {f : Addr} {fd : FuncData} (F : FnP K "is_left_at" (top 14) f fd) (hg : mg "is_left_at" = some (.ref f)) (b_len : mg "len" = none) (C_following : Cal P w K mg base 1 "following" ["value"] (sp_following K)) : Cal P w K mg base 2 "is_left_at" ["view", "value", "at"] (sp_is_left_at K) := ⟨f, fd, fo_is_left_at F b_len C_following, hg, F.kp, F.bindsN fun _ _ _ _ _ _ us hl => match us, hl with | [_, _, _], _ => rfl⟩
def m_left_by (view : (Sv Int)) : Mn Unit (List Int) :=
  (mb (mc (b62 ((3 : Int) : Int)) (rng 0 ((3 : Int) : Int).toNat)) fun xs => cmP xs (fun (a23 : Int) => (mb (mb (mb (mc (b62 ((((Sq.mk view.t view.l).l.length : Nat) : Int) : Int)) (rng 0 ((((Sq.mk view.t view.l).l.length : Nat) : Int) : Int).toNat)) fun xs => cmP xs (fun (a24 : Int) => (mp true)) fun a24 => (mu (m_is_left_at view a23 a24))) fun x_25 => mb (mp ()) fun z26 => mp (x_25, z26)) fun z27 => mp (z27.1.any id))) fun a23 => (mp a23))
abbrev sp_left_by (K : PySem.W.Frag) : Sp := Prom (rIm K) (S := Unit) (fun i : (Sv Int) => [.im (pv K i)]) fun i => m_left_by i
theorem len_left_by : ∀ vs H Q E, sp_left_by K vs H Q E → vs.length = 1 := prom_len (S := Unit) (Ret := (rIm K)) (As := fun i : (Sv Int) => [.im (pv K i)]) (m := fun i => m_left_by i) fun _ => rfl
theorem sc_left_by : FnScope ["view", "value", "at"] ["view"] (defScope (top 15)) := ⟨rfl, rfl, rfl, by decide +kernel, rfl, by decide +kernel, by decide +kernel⟩
theorem fo_left_by {f : Addr} {fd : FuncData} (F : FnP K "left_by" (top 15) f fd) (b_any : mg "any" = none) (b_len : mg "len" = none) (b_range : mg "range" = none) (C_is_left_at : Cal P w K mg base 2 "is_left_at" ["view", "value", "at"] (sp_is_left_at K)) : FnOk P w K mg base CX0 3 f fd ["view"] (sp_left_by K) := by
  obtain ⟨f_is_left_at, fd_is_left_at, G_is_left_at, g_is_left_at, kp_is_left_at, bi_is_left_at⟩ := C_is_left_at.ex
  refine F.ok sc_left_by (len_left_by (K := K)) (fun cdv A outer s H vs Q E hr h => ?_)
  have hl : vs.length = 1 := len_left_by (K := K) vs H Q E h
  match vs, hl, h with
  | [v0], _, h => exact ⟨_, PSs.nox ((pss_one (ps_ret (pe_lc (own := [("value", 1)]) rfl sc_left_by.nd (pi_range1 rfl b_range (pa_cons pe_int pa_nil)) (blkOk_by (own := [("value", 1)]) (N := ["view", "value", "at"]) (sc := defScope (top 15)) (by decide +kernel)) (fun _ _ _ _ _ => (pg_name (i := 1) sc_left_by.nd rfl (Or.inr rfl))) (fun _ _ _ _ _ => (pts_one (pt_val (pe_callB (cr_any rfl) rfl b_any bt_any (pa_cons (pe_lc (own := [("at", 2)]) rfl sc_left_by.nd (pi_range1 rfl b_range (pa_cons (pe_callB call_len_seq rfl b_len bt_len (pa_cons (L2.pv 0) pa_nil)) pa_nil)) (blkOk_by (own := [("at", 2)]) (N := ["view", "value", "at"]) (sc := { kind := .function, names := [(".0", .local), ("value", .cell), ("any", .globalImplicit), ("range", .globalImplicit), ("len", .globalImplicit), ("view", .cell)], isGenerator := false, isCoroutine := false }) (by decide +kernel)) (fun _ _ _ _ _ => (pg_name (i := 2) sc_left_by.nd rfl (Or.inl rfl))) (fun _ _ _ _ _ => pts_nil) (fun _ _ _ _ _ => (pe_call G_is_left_at (hr.mono (Nat.le_of_ble_eq_true rfl)) rfl g_is_left_at kp_is_left_at bi_is_left_at .nil pass0 (pa_cons (L2.pv 0) (pa_cons (L2.pv 1) (pa_cons (L2.pv 2) pa_nil)))))) pa_nil))))) (fun _ _ _ _ _ => (L2.pv 1)))))), prom_ok (n := 1) (S := Unit) (Ret := (rIm K)) (As := fun i : (Sv Int) => [.im (pv K i)]) (m := fun i => m_left_by i) 2 (fun _ => rfl) rfl (fun view => (show RN (rIm K) _ (fun (s : Unit) => [.im (pv K view), .no, .no]) (m_left_by view) (fun (s : Unit) => [.no, .no, .no]) from (rn_of (rt_ret (em_lc (vs := [1]) (Γ := (fun (s : Unit) => [.im (pv K view), .no, .no])) (Γx := fun (a23 : Int) (s : Unit) => [.im (pv K view), .im (pv K a23), .no]) (js := [1]) (im_rng1 fun _ => (ap_cons (ep_int (K := K)) ap_nil)) (fun _ => rfl) (fun a23 s => (gt_name (Γ := [.im (pv K view), .no, .no]) (i := 1) (Γ' := [.im (pv K view), .im (pv K a23), .no]) rfl rfl)) rfl (fun a23 => (tm_B (em_cb (f := fun (z27 : (List Bool) × Unit) => (z27.1.any id)) (am_cons (em_lc (vs := [2]) (Γ := (fun (s : Unit) => [.im (pv K view), .im (pv K a23), .no])) (Γx := fun (a24 : Int) (s : Unit) => [.im (pv K view), .im (pv K a23), .im (pv K a24)]) (js := [2]) (im_rng1 fun _ => (ap_cons (ep_cb (ap_cons (ep_svQ (ep_var rfl)) ap_nil) c_lenSq) ap_nil)) (fun _ => rfl) (fun a24 s => (gt_name (Γ := [.im (pv K view), .im (pv K a23), .no]) (i := 2) (Γ' := [.im (pv K view), .im (pv K a23), .im (pv K a24)]) rfl rfl)) rfl (fun a24 => tm_yes) (fun a24 => (em_of_eo (eo_call0 (i := (view, a23, a24)) (ps := [pv K view, pv K a23, pv K a24]) (fun _ => (ap_cons (ep_var rfl) (ap_cons (ep_var rfl) (ap_cons (ep_var rfl) ap_nil)))) rfl))) fun a24 s => (.cons (.rfl _) (.cons (.rfl _) (.cons (.no _) .nil)))) am_nil) fun _ => c_any))) (fun a23 => (em_pure fun _ => (ep_var rfl))) fun a23 s => (.cons (.rfl _) (.cons (.no _) (.cons (.rfl _) .nil)))) fun s => (.cons (.no _) (.cons (.rfl _) (.cons (.rfl _) .nil))))))) h⟩
theorem ok_left_by {f : Addr} {fd : FuncData} (F : FnP K "left_by" (top 15) f fd) (hg : mg "left_by" = some (.ref f)) (b_any : mg "any" = none) (b_len : mg "len" = none) (b_range : mg "range" = none) (C_is_left_at : Cal P w K mg base 2 "is_left_at" ["view", "value", "at"] (sp_is_left_at K)) : Cal P w K mg base 3 "left_by" ["view"] (sp_left_by K) := ⟨f, fd, fo_left_by F b_any b_len b_range C_is_left_at, hg, F.kp, F.bindsN fun _ _ _ _ _ _ us hl => match us, hl with | [_], _ => rfl⟩
def m_check_three (view : (Sv Int)) : Mn Unit Unit :=
  (mb (mu (m_check_few view)) fun u_28 =>
  (mb (mp (decide ((((Sq.mk view.t view.l).l.length : Nat) : Int) = (1 : Int)))) fun b => mi b
    mbad
    (mp ())))
abbrev sp_check_three (K : PySem.W.Frag) : Sp := Prom (rIm K) (S := Unit) (fun i : (Sv Int) => [.im (pv K i)]) fun i => m_check_three i
theorem len_check_three : ∀ vs H Q E, sp_check_three K vs H Q E → vs.length = 1 := prom_len (S := Unit) (Ret := (rIm K)) (As := fun i : (Sv Int) => [.im (pv K i)]) (m := fun i => m_check_three i) fun _ => rfl
theorem sc_check_three : FnScope ["view"] ["view"] (defScope (top 16)) := ⟨rfl, rfl, rfl, by decide +kernel, rfl, by decide +kernel, by decide +kernel⟩
theorem fo_check_three {f : Addr} {fd : FuncData} (F : FnP K "check_three" (top 16) f fd) (b_len : mg "len" = none) (C_check_few : Cal P w K mg base 3 "check_few" ["view"] (sp_check_few K)) : FnOk P w K mg base CX0 4 f fd ["view"] (sp_check_three K) := by
  obtain ⟨f_check_few, fd_check_few, G_check_few, g_check_few, kp_check_few, bi_check_few⟩ := C_check_few.ex
  refine F.ok sc_check_three (len_check_three (K := K)) (fun cdv A outer s H vs Q E hr h => ?_)
  have hl : vs.length = 1 := len_check_three (K := K) vs H Q E h
  match vs, hl, h with
  | [v0], _, h => exact ⟨_, PSs.nox ((pss_cons (ps_expr (pe_call G_check_few (hr.mono (Nat.le_of_ble_eq_true rfl)) rfl g_check_few kp_check_few bi_check_few .nil pass0 (pa_cons (L2.pv 0) pa_nil))) (pss_one (ps_if (pt_cmpR op_eq (pe_callB call_len_seq rfl b_len bt_len (pa_cons (L2.pv 0) pa_nil)) pe_int (nomark _)) (pss_one ps_never) pss_nil)))), prom_ok (n := 1) (S := Unit) (Ret := (rIm K)) (As := fun i : (Sv Int) => [.im (pv K i)]) (m := fun i => m_check_three i) 0 (fun _ => rfl) rfl (fun view => (show RN (rIm K) _ (fun (s : Unit) => [.im (pv K view)]) (m_check_three view) (fun (s : Unit) => [.no]) from ((rn_seq (rp_drop (em_of_eo (eo_call0 (i := view) (ps := [pv K view]) (fun _ => (ap_cons (ep_var rfl) ap_nil)) rfl))) fun u_28 => (rn_if (tm_pure fun _ => (tp_test (ep_op (ep_cb (ap_cons (ep_svQ (ep_var rfl)) ap_nil) c_lenSq) (ep_int (K := K)) o_eq))) (rn_of rt_never) (rn_next fun s => (.cons (.no _) .nil))))))) h⟩
theorem ok_check_three {f : Addr} {fd : FuncData} (F : FnP K "check_three" (top 16) f fd) (hg : mg "check_three" = some (.ref f)) (b_len : mg "len" = none) (C_check_few : Cal P w K mg base 3 "check_few" ["view"] (sp_check_few K)) : Cal P w K mg base 4 "check_three" ["view"] (sp_check_three K) := ⟨f, fd, fo_check_three F b_len C_check_few, hg, F.kp, F.bindsN fun _ _ _ _ _ _ us hl => match us, hl with | [_], _ => rfl⟩
def m_check_left (view : (Sv Int)) : Mn Unit Unit :=
  (mb (mu (m_check_three view)) fun u_29 =>
  (mb (mb (mu (m_left_by view)) fun x_30 => mp (decide (x_30 = ([] : (List Int))))) fun b => mi b
    mbad
    (mp ())))
abbrev sp_check_left (K : PySem.W.Frag) : Sp := Prom (rIm K) (S := Unit) (fun i : (Sv Int) => [.im (pv K i)]) fun i => m_check_left i
theorem len_check_left : ∀ vs H Q E, sp_check_left K vs H Q E → vs.length = 1 := prom_len (S := Unit) (Ret := (rIm K)) (As := fun i : (Sv Int) => [.im (pv K i)]) (m := fun i => m_check_left i) fun _ => rfl
theorem sc_check_left : FnScope ["view"] ["view"] (defScope (top 17)) := ⟨rfl, rfl, rfl, by decide +kernel, rfl, by decide +kernel, by decide +kernel⟩
theorem fo_check_left {f : Addr} {fd : FuncData} (F : FnP K "check_left" (top 17) f fd) (C_check_three : Cal P w K mg base 4 "check_three" ["view"] (sp_check_three K)) (C_left_by : Cal P w K mg base 3 "left_by" ["view"] (sp_left_by K)) : FnOk P w K mg base CX0 5 f fd ["view"] (sp_check_left K) := by
  obtain ⟨f_check_three, fd_check_three, G_check_three, g_check_three, kp_check_three, bi_check_three⟩ := C_check_three.ex
  obtain ⟨f_left_by, fd_left_by, G_left_by, g_left_by, kp_left_by, bi_left_by⟩ := C_left_by.ex
  refine F.ok sc_check_left (len_check_left (K := K)) (fun cdv A outer s H vs Q E hr h => ?_)
  have hl : vs.length = 1 := len_check_left (K := K) vs H Q E h
  match vs, hl, h with
  | [v0], _, h => exact ⟨_, PSs.nox ((pss_cons (ps_expr (pe_call G_check_three (hr.mono (Nat.le_of_ble_eq_true rfl)) rfl g_check_three kp_check_three bi_check_three .nil pass0 (pa_cons (L2.pv 0) pa_nil))) (pss_one (ps_if (pt_cmpR (op_eqD (hu64 hr)) (pe_call G_left_by (hr.mono (Nat.le_of_ble_eq_true rfl)) rfl g_left_by kp_left_by bi_left_by .nil pass0 (pa_cons (L2.pv 0) pa_nil)) (pe_lst pa_nil) (nomark _)) (pss_one ps_never) pss_nil)))), prom_ok (n := 1) (S := Unit) (Ret := (rIm K)) (As := fun i : (Sv Int) => [.im (pv K i)]) (m := fun i => m_check_left i) 0 (fun _ => rfl) rfl (fun view => (show RN (rIm K) _ (fun (s : Unit) => [.im (pv K view)]) (m_check_left view) (fun (s : Unit) => [.no]) from ((rn_seq (rp_drop (em_of_eo (eo_call0 (i := view) (ps := [pv K view]) (fun _ => (ap_cons (ep_var rfl) ap_nil)) rfl))) fun u_29 => (rn_if (tm_test (em_opr (g := fun (u : (List Int)) (v : (List Int)) => decide (u = v)) (em_of_eo (eo_call0 (i := view) (ps := [pv K view]) (fun _ => (ap_cons (ep_var rfl) ap_nil)) rfl)) (fun _ => (ep_lst (xs := ([] : (List Int))) (hl := Nat.le_of_ble_eq_true rfl) ap_nil)) fun _ => (o_eqDt (Nat.le_of_ble_eq_true rfl)))) (rn_of rt_never) (rn_next fun s => (.cons (.no _) .nil))))))) h⟩
theorem ok_check_left {f : Addr} {fd : FuncData} (F : FnP K "check_left" (top 17) f fd) (hg : mg "check_left" = some (.ref f)) (C_check_three : Cal P w K mg base 4 "check_three" ["view"] (sp_check_three K)) (C_left_by : Cal P w K mg base 3 "left_by" ["view"] (sp_left_by K)) : Cal P w K mg base 5 "check_left" ["view"] (sp_check_left K) := ⟨f, fd, fo_check_left F C_check_three C_left_by, hg, F.kp, F.bindsN fun _ _ _ _ _ _ us hl => match us, hl with | [_], _ => rfl⟩
def m_three_can_be_left (view : (Sv Int)) : Mn Unit Bool :=
  (mb (mu (m_check_three view)) fun u_32 =>
  (mb (mu (m_left_by view)) fun x_33 => mp (!decide (x_33 = ([] : (List Int))))))
abbrev sp_three_can_be_left (K : PySem.W.Frag) : Sp := Prom (rIm K) (S := Unit) (fun i : (Sv Int) => [.im (pv K i)]) fun i => m_three_can_be_left i
theorem len_three_can_be_left : ∀ vs H Q E, sp_three_can_be_left K vs H Q E → vs.length = 1 := prom_len (S := Unit) (Ret := (rIm K)) (As := fun i : (Sv Int) => [.im (pv K i)]) (m := fun i => m_three_can_be_left i) fun _ => rfl
theorem sc_three_can_be_left : FnScope ["view"] ["view"] (defScope (top 18)) := ⟨rfl, rfl, rfl, by decide +kernel, rfl, by decide +kernel, by decide +kernel⟩
theorem fo_three_can_be_left {f : Addr} {fd : FuncData} (F : FnP K "three_can_be_left" (top 18) f fd) (C_check_three : Cal P w K mg base 4 "check_three" ["view"] (sp_check_three K)) (C_left_by : Cal P w K mg base 3 "left_by" ["view"] (sp_left_by K)) : FnOk P w K mg base CX0 5 f fd ["view"] (sp_three_can_be_left K) := by
  obtain ⟨f_check_three, fd_check_three, G_check_three, g_check_three, kp_check_three, bi_check_three⟩ := C_check_three.ex
  obtain ⟨f_left_by, fd_left_by, G_left_by, g_left_by, kp_left_by, bi_left_by⟩ := C_left_by.ex
  refine F.ok sc_three_can_be_left (len_three_can_be_left (K := K)) (fun cdv A outer s H vs Q E hr h => ?_)
  have hl : vs.length = 1 := len_three_can_be_left (K := K) vs H Q E h
  match vs, hl, h with
  | [v0], _, h => exact ⟨_, PSs.nox ((pss_cons (ps_expr (pe_call G_check_three (hr.mono (Nat.le_of_ble_eq_true rfl)) rfl g_check_three kp_check_three bi_check_three .nil pass0 (pa_cons (L2.pv 0) pa_nil))) (pss_one (ps_ret (pe_cmpR (op_neD (hu64 hr)) (pe_call G_left_by (hr.mono (Nat.le_of_ble_eq_true rfl)) rfl g_left_by kp_left_by bi_left_by .nil pass0 (pa_cons (L2.pv 0) pa_nil)) (pe_lst pa_nil) (nomark _)))))), prom_ok (n := 1) (S := Unit) (Ret := (rIm K)) (As := fun i : (Sv Int) => [.im (pv K i)]) (m := fun i => m_three_can_be_left i) 0 (fun _ => rfl) rfl (fun view => (show RN (rIm K) _ (fun (s : Unit) => [.im (pv K view)]) (m_three_can_be_left view) (fun (s : Unit) => [.no]) from (rn_of (rt_seq (rp_drop (em_of_eo (eo_call0 (i := view) (ps := [pv K view]) (fun _ => (ap_cons (ep_var rfl) ap_nil)) rfl))) fun u_32 => (rt_ret (em_opr (g := fun (u : (List Int)) (v : (List Int)) => (!decide (u = v))) (em_of_eo (eo_call0 (i := view) (ps := [pv K view]) (fun _ => (ap_cons (ep_var rfl) ap_nil)) rfl)) (fun _ => (ep_lst (xs := ([] : (List Int))) (hl := Nat.le_of_ble_eq_true rfl) ap_nil)) fun _ => (o_neDt (Nat.le_of_ble_eq_true rfl))) fun s => (.cons (.no _) .nil)))))) h⟩
theorem ok_three_can_be_left {f : Addr} {fd : FuncData} (F : FnP K "three_can_be_left" (top 18) f fd) (hg : mg "three_can_be_left" = some (.ref f)) (C_check_three : Cal P w K mg base 4 "check_three" ["view"] (sp_check_three K)) (C_left_by : Cal P w K mg base 3 "left_by" ["view"] (sp_left_by K)) : Cal P w K mg base 5 "three_can_be_left" ["view"] (sp_three_can_be_left K) := ⟨f, fd, fo_three_can_be_left F C_check_three C_left_by, hg, F.kp, F.bindsN fun _ _ _ _ _ _ us hl => match us, hl with | [_], _ => rfl⟩
def gl_three_can_be_left__view : List Value → List Value → List Value
  | [], [a0] => [a0]
  | _, _ => []
def gv_three_can_be_left__view : List V → List V → List V
  | [], [a0] => [a0]
  | _, _ => []
theorem kb_three_can_be_left__view {f : Addr} {fd : FuncData} (F : FnP K "three_can_be_left" (top 18) f fd) : KBinds K fd ["view"] ["view"] gl_three_can_be_left__view gv_three_can_be_left__view := by
  obtain ⟨oc, od, dV, kV, doc, pm, an, cdv, ct, osl, rfl, lk, hcd, hD, hK⟩ := F.ex
  rcases hD with ⟨_, rfl⟩ | ⟨e, _⟩
  · refine ⟨fun s us ws X hl => ?_, fun {vs us zs ws} r1 r2 => ?_⟩
    · match us, ws, hl with
      | [], [a0], _ => exact .of_eq rfl
    · match vs, us, zs, ws, r1, r2 with
      | [], [], [_], [_], .nil, (.cons r0 .nil) => exact (.cons r0 .nil)
      | _ :: _, _ :: _, _, _, .cons _ _, _ => exact .nil
      | [], [], [], [], .nil, .nil => exact .nil
      | [], [], _ :: _ :: _, _ :: _ :: _, .nil, (.cons _ (.cons _ _)) => exact .nil
  · exact absurd rfl e
theorem okK_three_can_be_left__view {f : Addr} {fd : FuncData} (F : FnP K "three_can_be_left" (top 18) f fd) (hg : mg "three_can_be_left" = some (.ref f)) (C_check_three : Cal P w K mg base 4 "check_three" ["view"] (sp_check_three K)) (C_left_by : Cal P w K mg base 3 "left_by" ["view"] (sp_left_by K)) : CalK P w K mg base 5 "three_can_be_left" ["view"] (sp_three_can_be_left K) ["view"] gl_three_can_be_left__view gv_three_can_be_left__view := ⟨f, fd, fo_three_can_be_left F C_check_three C_left_by, hg, F.kp, kb_three_can_be_left__view F⟩
def m_told_of_two (view : (Sv Int)) : Mn (Sto K) (Int × Ref) :=
  (mb (mb (mp ((Sq.mk view.t view.l) : (Sq Int))) fun w_35 => mc (decide (w_35.l.length = 2)) w_35.l) fun w_35 =>
  (mb (mp (decide ((2 : Int) < (w_35.getD 0 0)))) fun b => mi b
    (mb (mb (mp ((w_35.getD 1 0) : Int)) fun x_38 => mb (mb (mb (mp ([((0 : Int), (w_35.getD 1 0))] : (List (Int × Int)))) fun (xs : (List (Int × Int))) => mnew (.lst (xs.map PyT.enc))) fun x_36 => mb (mp ()) fun z37 => mp (x_36, z37)) fun z39 => mp (x_38, z39)) fun z40 => mp (z40.1, z40.2.1))
    (mb (mb (mp (decide ((2 : Int) < (w_35.getD 1 0)))) fun b43 => mi b43 (mp true) (mb (mu (m_following ((w_35.getD 1 0) : Int))) fun y42 => mp (decide ((w_35.getD 0 0) = y42)))) fun b => mi b
    (mb (mb (mp ((w_35.getD 0 0) : Int)) fun x_46 => mb (mb (mb (mp ([((1 : Int), (w_35.getD 0 0))] : (List (Int × Int)))) fun (xs : (List (Int × Int))) => mnew (.lst (xs.map PyT.enc))) fun x_44 => mb (mp ()) fun z45 => mp (x_44, z45)) fun z47 => mp (x_46, z47)) fun z48 => mp (z48.1, z48.2.1))
    (mb (mb (mp ((((3 : Int) - (w_35.getD 0 0)) - (w_35.getD 1 0)) : Int)) fun x_51 => mb (mb (mb (mp ([] : (List (Int × Int)))) fun (xs : (List (Int × Int))) => mnew (.lst (xs.map PyT.enc))) fun x_49 => mb (mp ()) fun z50 => mp (x_49, z50)) fun z52 => mp (x_51, z52)) fun z53 => mp (z53.1, z53.2.1)))))
abbrev sp_told_of_two (K : PySem.W.Frag) : Sp := Prom (rIm K) (S := (Sto K)) (fun i : (Sv Int) => [.im (pv K i)]) fun i => m_told_of_two i
theorem len_told_of_two : ∀ vs H Q E, sp_told_of_two K vs H Q E → vs.length = 1 := prom_len (S := (Sto K)) (Ret := (rIm K)) (As := fun i : (Sv Int) => [.im (pv K i)]) (m := fun i => m_told_of_two i) fun _ => rfl
theorem sc_told_of_two : FnScope ["view", "one", "other"] ["view"] (defScope (top 19)) := ⟨rfl, rfl, rfl, by decide +kernel, rfl, by decide +kernel, by decide +kernel⟩
theorem fo_told_of_two {f : Addr} {fd : FuncData} (F : FnP K "told_of_two" (top 19) f fd) (C_following : Cal P w K mg base 1 "following" ["value"] (sp_following K)) : FnOk P w K mg base CX0 2 f fd ["view"] (sp_told_of_two K) := by
  obtain ⟨f_following, fd_following, G_following, g_following, kp_following, bi_following⟩ := C_following.ex
  refine F.ok sc_told_of_two (len_told_of_two (K := K)) (fun cdv A outer s H vs Q E hr h => ?_)
  have hl : vs.length = 1 := len_told_of_two (K := K) vs H Q E h
  match vs, hl, h with
  | [v0], _, h => exact ⟨_, PSs.nox ((pss_cons (ps_asg (L2.pv 0) (TC.pg_altG (pg_tup (n := 2) rfl (pgs_cons (pg_name (i := 1) sc_told_of_two.nd rfl (Or.inl rfl)) (pgs_cons (pg_name (i := 2) sc_told_of_two.nd rfl (Or.inl rfl)) pgs_nil))) (pg_lst (n := 2) rfl (pgs_cons (pg_name (i := 1) sc_told_of_two.nd rfl (Or.inl rfl)) (pgs_cons (pg_name (i := 2) sc_told_of_two.nd rfl (Or.inl rfl)) pgs_nil))))) (pss_cons (ps_if (pt_cmpR op_gt (L2.pv 1) pe_int (nomark _)) (pss_one (ps_ret (pe_tup (pa_cons (L2.pv 2) (pa_cons (pe_lst (pa_cons (pe_tup (pa_cons pe_int (pa_cons (L2.pv 2) pa_nil))) pa_nil)) pa_nil))))) pss_nil) (pss_cons (ps_if (PW.pt (pw_or (pt_cmpR op_gt (L2.pv 2) pe_int (nomark _)) (pw_or1 (pt_cmpR op_eq (L2.pv 1) (pe_call G_following (hr.mono (Nat.le_of_ble_eq_true rfl)) rfl g_following kp_following bi_following .nil pass0 (pa_cons (L2.pv 2) pa_nil)) (nomark _))))) (pss_one (ps_ret (pe_tup (pa_cons (L2.pv 1) (pa_cons (pe_lst (pa_cons (pe_tup (pa_cons pe_int (pa_cons (L2.pv 1) pa_nil))) pa_nil)) pa_nil))))) pss_nil) (pss_one (ps_ret (pe_tup (pa_cons (pe_op op_sub (pe_op op_sub pe_int (L2.pv 1)) (L2.pv 2)) (pa_cons (pe_lst pa_nil) pa_nil))))))))), prom_ok (n := 1) (S := (Sto K)) (Ret := (rIm K)) (As := fun i : (Sv Int) => [.im (pv K i)]) (m := fun i => m_told_of_two i) 2 (fun _ => rfl) rfl (fun view => (show RN (rIm K) _ (fun (s : (Sto K)) => [.im (pv K view), .no, .no]) (m_told_of_two view) (fun (s : (Sto K)) => [.no, .no, .no]) from (rn_of (rt_seq (rp_unpSq (Γ := fun (s : (Sto K)) => [.im (pv K view), .no, .no]) (Γ' := fun w_35 (s : (Sto K)) => [.im (pv K view), .im (pv K ((w_35.getD 0 0) : Int)), .im (pv K ((w_35.getD 1 0) : Int))]) (n := 2) [1, 2] (em_pure fun _ => (ep_svQ (ep_var rfl))) (fun _ => asg_ok rfl) fun _ _ => rfl) fun w_35 => (rt_ifr (tm_pure fun _ => (tp_test (ep_op (ep_var rfl) (ep_int (K := K)) o_gt))) (rt_ret (em_tup (f := fun (z40 : Int × Ref × Unit) => (z40.1, z40.2.1)) (am_cons (em_pure fun _ => (ep_var rfl)) (am_cons (em_new (eo_lst (xs := [((0 : Int), (w_35.getD 1 0))]) (hl := Nat.le_of_ble_eq_true rfl) fun _ => (ap_cons (ep_tup (ap_cons (ep_int (K := K)) (ap_cons (ep_var rfl) ap_nil)) tup2) ap_nil)) fun _ _ => rfl) am_nil)) fun z40 => tup2) fun s => (.cons (.no _) (.cons (.no _) (.cons (.no _) .nil)))) (rt_ifr (tm_or (tm_pure fun _ => (tp_test (ep_op (ep_var rfl) (ep_int (K := K)) o_gt))) (tm_test (em_opl (g := fun (u : Int) (v : Int) => decide (u = v)) (fun _ => (ep_var rfl)) (em_of_eo (eo_call0 (i := ((w_35.getD 1 0) : Int)) (ps := [pv K ((w_35.getD 1 0) : Int)]) (fun _ => (ap_cons (ep_var rfl) ap_nil)) rfl)) fun _ => o_eq))) (rt_ret (em_tup (f := fun (z48 : Int × Ref × Unit) => (z48.1, z48.2.1)) (am_cons (em_pure fun _ => (ep_var rfl)) (am_cons (em_new (eo_lst (xs := [((1 : Int), (w_35.getD 0 0))]) (hl := Nat.le_of_ble_eq_true rfl) fun _ => (ap_cons (ep_tup (ap_cons (ep_int (K := K)) (ap_cons (ep_var rfl) ap_nil)) tup2) ap_nil)) fun _ _ => rfl) am_nil)) fun z48 => tup2) fun s => (.cons (.no _) (.cons (.no _) (.cons (.no _) .nil)))) (rt_ret (em_tup (f := fun (z53 : Int × Ref × Unit) => (z53.1, z53.2.1)) (am_cons (em_pure fun _ => (ep_op (ep_op (ep_int (K := K)) (ep_var rfl) o_sub) (ep_var rfl) o_sub)) (am_cons (em_new (eo_lst (xs := ([] : (List (Int × Int)))) (fun _ => ap_nil)) fun _ _ => rfl) am_nil)) fun z53 => tup2) fun s => (.cons (.no _) (.cons (.no _) (.cons (.no _) .nil)))))))))) h⟩
theorem ok_told_of_two {f : Addr} {fd : FuncData} (F : FnP K "told_of_two" (top 19) f fd) (hg : mg "told_of_two" = some (.ref f)) (C_following : Cal P w K mg base 1 "following" ["value"] (sp_following K)) : Cal P w K mg base 2 "told_of_two" ["view"] (sp_told_of_two K) := ⟨f, fd, fo_told_of_two F C_following, hg, F.kp, F.bindsN fun _ _ _ _ _ _ us hl => match us, hl with | [_], _ => rfl⟩
def m_told_and_writes (view : (Sv Int)) : Mn (Sto K) (Int × Ref) :=
  (mb (mb (mb (mo (atI (Sq.mk view.t view.l).l (0 : Int))) fun k56 => mp ((view.l.count k56 : Nat) : Int)) fun x_57 => mp (decide (x_57 = (((Sq.mk view.t view.l).l.length : Nat) : Int)))) fun b => mi b
    (mb (mb (mo (atI (Sq.mk view.t view.l).l (0 : Int))) fun x_63 => mb (mb (mb (mp ([] : (List (Int × Int)))) fun (xs : (List (Int × Int))) => mnew (.lst (xs.map PyT.enc))) fun x_61 => mb (mp ()) fun z62 => mp (x_61, z62)) fun z64 => mp (x_63, z64)) fun z65 => mp (z65.1, z65.2.1))
    (mb (mp (decide ((((Sq.mk view.t view.l).l.length : Nat) : Int) = (2 : Int)))) fun b => mi b
    (mb (mb (mp view) fun x_66 => mb (mp ()) fun z67 => mp (x_66, z67)) fun z68 => (m_told_of_two z68.1))
    (mb (mb (mb (mb (mu (m_left_by view)) fun x_69 => mo (atI x_69 (0 : Int))) fun x_71 => mb (mp ()) fun z72 => mp (x_71, z72)) fun z73 => (mu (m_following z73.1))) fun told74 =>
  (mb (mb (mp told74) fun x_78 => mb (mb (mb (mb (mp (enumL (Sq.mk view.t view.l).l)) fun xs => cmP xs (fun (a75 : (Int × Int)) => (mp (!decide (a75.2 = told74)))) fun a75 => (mp ((a75.1, told74) : (Int × Int)))) fun (xs : (List (Int × Int))) => mnew (.lst (xs.map PyT.enc))) fun x_76 => mb (mp ()) fun z77 => mp (x_76, z77)) fun z79 => mp (x_78, z79)) fun z80 => mp (z80.1, z80.2.1)))))
abbrev sp_told_and_writes (K : PySem.W.Frag) : Sp := Prom (rIm K) (S := (Sto K)) (fun i : (Sv Int) => [.im (pv K i)]) fun i => m_told_and_writes i
theorem len_told_and_writes : ∀ vs H Q E, sp_told_and_writes K vs H Q E → vs.length = 1 := prom_len (S := (Sto K)) (Ret := (rIm K)) (As := fun i : (Sv Int) => [.im (pv K i)]) (m := fun i => m_told_and_writes i) fun _ => rfl
theorem sc_told_and_writes : FnScope ["view", "told", "index", "content"] ["view"] (defScope (top 20)) := ⟨rfl, rfl, rfl, by decide +kernel, rfl, by decide +kernel, by decide +kernel⟩
theorem fo_told_and_writes {f : Addr} {fd : FuncData} (F : FnP K "told_and_writes" (top 20) f fd) (b_enumerate : mg "enumerate" = none) (b_len : mg "len" = none) (C_told_of_two : Cal P w K mg base 2 "told_of_two" ["view"] (sp_told_of_two K)) (C_following : Cal P w K mg base 1 "following" ["value"] (sp_following K)) (C_left_by : Cal P w K mg base 3 "left_by" ["view"] (sp_left_by K)) : FnOk P w K mg base CX0 4 f fd ["view"] (sp_told_and_writes K) := by
  obtain ⟨f_told_of_two, fd_told_of_two, G_told_of_two, g_told_of_two, kp_told_of_two, bi_told_of_two⟩ := C_told_of_two.ex
  obtain ⟨f_following, fd_following, G_following, g_following, kp_following, bi_following⟩ := C_following.ex
  obtain ⟨f_left_by, fd_left_by, G_left_by, g_left_by, kp_left_by, bi_left_by⟩ := C_left_by.ex
  refine F.ok sc_told_and_writes (len_told_and_writes (K := K)) (fun cdv A outer s H vs Q E hr h => ?_)
  have hl : vs.length = 1 := len_told_and_writes (K := K) vs H Q E h
  match vs, hl, h with
  | [v0], _, h => exact ⟨_, PSs.nox ((pss_cons (ps_if (pt_cmpR op_eq (TC.pe_altE (pe_bm PySem.F.plainAttrs_list PySem.F.slot_list_count PySem.F.type_list_count mt_lcount (L2.pv 0) (pa_cons (pe_ix (IxR.or ix_list ix_tup) (L2.pv 0) pe_int (fun _ _ => rfl)) pa_nil)) (TC.pe_bmT PySem.F.plainAttrs_tuple PySem.F.slot_tuple_count PySem.F.type_tuple_count TC.mt_tcount (L2.pv 0) (pa_cons (pe_ix (IxR.or ix_list ix_tup) (L2.pv 0) pe_int (fun _ _ => rfl)) pa_nil))) (pe_callB call_len_seq rfl b_len bt_len (pa_cons (L2.pv 0) pa_nil)) (nomark _)) (pss_one (ps_ret (pe_tup (pa_cons (pe_ix (IxR.or ix_list ix_tup) (L2.pv 0) pe_int (fun _ _ => rfl)) (pa_cons (pe_lst pa_nil) pa_nil))))) pss_nil) (pss_cons (ps_if (pt_cmpR op_eq (pe_callB call_len_seq rfl b_len bt_len (pa_cons (L2.pv 0) pa_nil)) pe_int (nomark _)) (pss_one (ps_ret (pe_call G_told_of_two (hr.mono (Nat.le_of_ble_eq_true rfl)) rfl g_told_of_two kp_told_of_two bi_told_of_two .nil pass0 (pa_cons (L2.pv 0) pa_nil)))) pss_nil) (pss_cons (ps_set (i := 1) sc_told_and_writes.nd rfl (Or.inr rfl) (pe_call G_following (hr.mono (Nat.le_of_ble_eq_true rfl)) rfl g_following kp_following bi_following .nil pass0 (pa_cons (pe_ix ix_list (pe_call G_left_by (hr.mono (Nat.le_of_ble_eq_true rfl)) rfl g_left_by kp_left_by bi_left_by .nil pass0 (pa_cons (L2.pv 0) pa_nil)) pe_int (fun _ _ => rfl)) pa_nil))) (pss_one (ps_ret (pe_tup (pa_cons (L2.pv 1) (pa_cons (pe_lc (own := [("index", 2), ("content", 3)]) rfl sc_told_and_writes.nd (pi_alt (pi_enum rfl b_enumerate (pa_cons (L2.pv 0) pa_nil)) (EnT.pi_enT rfl b_enumerate (pa_cons (L2.pv 0) pa_nil))) (blkOk_by (own := [("index", 2), ("content", 3)]) (N := ["view", "told", "index", "content"]) (sc := defScope (top 20)) (by decide +kernel)) (fun _ _ _ _ _ => (pg_tup (n := 2) rfl (pgs_cons (pg_name (i := 2) sc_told_and_writes.nd rfl (Or.inl rfl)) (pgs_cons (pg_name (i := 3) sc_told_and_writes.nd rfl (Or.inl rfl)) pgs_nil)))) (fun _ _ _ _ _ => (pts_one (pt_cmpR op_ne (L2.pv 3) (L2.pv 1) (nomark _)))) (fun _ _ _ _ _ => (pe_tup (pa_cons (L2.pv 2) (pa_cons (L2.pv 1) pa_nil))))) pa_nil))))))))), prom_ok (n := 1) (S := (Sto K)) (Ret := (rIm K)) (As := fun i : (Sv Int) => [.im (pv K i)]) (m := fun i => m_told_and_writes i) 3 (fun _ => rfl) rfl (fun view => (show RN (rIm K) _ (fun (s : (Sto K)) => [.im (pv K view), .no, .no, .no]) (m_told_and_writes view) (fun (s : (Sto K)) => [.no, .no, .no, .no]) from (rn_of (rt_ifr (tm_test (em_opr (g := fun (u : Int) (v : Int) => decide (u = v)) (em_cnt (fun _ => (ep_var rfl)) (em_ixSqp (fun _ => (ep_svQ (ep_var rfl))) fun _ => (ep_int (K := K)))) (fun _ => (ep_cb (ap_cons (ep_svQ (ep_var rfl)) ap_nil) c_lenSq)) fun _ => o_eq)) (rt_ret (em_tup (f := fun (z65 : Int × Ref × Unit) => (z65.1, z65.2.1)) (am_cons (em_ixSqp (fun _ => (ep_svQ (ep_var rfl))) fun _ => (ep_int (K := K))) (am_cons (em_new (eo_lst (xs := ([] : (List (Int × Int)))) (fun _ => ap_nil)) fun _ _ => rfl) am_nil)) fun z65 => tup2) fun s => (.cons (.no _) (.cons (.rfl _) (.cons (.rfl _) (.cons (.rfl _) .nil))))) (rt_ifr (tm_pure fun _ => (tp_test (ep_op (ep_cb (ap_cons (ep_svQ (ep_var rfl)) ap_nil) c_lenSq) (ep_int (K := K)) o_eq))) (rt_ret (em_of_eo (eo_callS (f := fun (z68 : (Sv Int) × Unit) => z68.1) (am_cons (em_pure fun _ => (ep_var rfl)) am_nil) (fun _ _ => rfl) fun _ _ => rfl)) fun s => (.cons (.no _) (.cons (.rfl _) (.cons (.rfl _) (.cons (.rfl _) .nil))))) (rt_seq (rp_asg (Γ := fun (s : (Sto K)) => [.im (pv K view), .no, .no, .no]) (i := 1) (Γ' := fun told74 (s : (Sto K)) => [.im (pv K view), .im (pv K told74), .no, .no]) (em_of_eo (eo_call0M (f := fun (z73 : Int × Unit) => z73.1) (am_cons (em_ixLr (em_of_eo (eo_call0 (i := view) (ps := [pv K view]) (fun _ => (ap_cons (ep_var rfl) ap_nil)) rfl)) fun _ => (ep_int (K := K))) am_nil) fun _ => rfl)) (fun _ => rfl) fun _ _ => rfl) fun told74 => (rt_ret (em_tup (f := fun (z80 : Int × Ref × Unit) => (z80.1, z80.2.1)) (am_cons (em_pure fun _ => (ep_var rfl)) (am_cons (em_new (eo_lc (vs := [2, 3]) (Γ := (fun (s : (Sto K)) => [.im (pv K view), .im (pv K told74), .no, .no])) (Γx := fun (a75 : (Int × Int)) (s : (Sto K)) => [.im (pv K view), .im (pv K told74), .im (pv K a75.1), .im (pv K a75.2)]) (js := [2, 3]) (im_enSq fun _ => (ap_cons (ep_svQ (ep_var rfl)) ap_nil)) (fun _ => rfl) (fun a75 s => (gt_2 (gt_name (Γ := [.im (pv K view), .im (pv K told74), .no, .no]) (i := 2) (Γ' := [.im (pv K view), .im (pv K told74), .im (pv K a75.1), .no]) rfl rfl) (gt_name (Γ := [.im (pv K view), .im (pv K told74), .im (pv K a75.1), .no]) (i := 3) (Γ' := [.im (pv K view), .im (pv K told74), .im (pv K a75.1), .im (pv K a75.2)]) rfl rfl))) rfl (fun a75 => (tm_pure fun _ => (tp_test (ep_op (ep_var rfl) (ep_var rfl) o_ne)))) (fun a75 => (em_pure fun _ => (ep_tup (ap_cons (ep_var rfl) (ap_cons (ep_var rfl) ap_nil)) tup2))) fun a75 s => (.cons (.rfl _) (.cons (.rfl _) (.cons (.no _) (.cons (.no _) .nil))))) fun _ _ => rfl) am_nil)) fun z80 => tup2) fun s => (.cons (.no _) (.cons (.no _) (.cons (.rfl _) (.cons (.rfl _) .nil))))))))))) h⟩
theorem ok_told_and_writes {f : Addr} {fd : FuncData} (F : FnP K "told_and_writes" (top 20) f fd) (hg : mg "told_and_writes" = some (.ref f)) (b_enumerate : mg "enumerate" = none) (b_len : mg "len" = none) (C_told_of_two : Cal P w K mg base 2 "told_of_two" ["view"] (sp_told_of_two K)) (C_following : Cal P w K mg base 1 "following" ["value"] (sp_following K)) (C_left_by : Cal P w K mg base 3 "left_by" ["view"] (sp_left_by K)) : Cal P w K mg base 4 "told_and_writes" ["view"] (sp_told_and_writes K) := ⟨f, fd, fo_told_and_writes F b_enumerate b_len C_told_of_two C_following C_left_by, hg, F.kp, F.bindsN fun _ _ _ _ _ _ us hl => match us, hl with | [_], _ => rfl⟩
def m_three_told (view : (Sv Int)) : Mn (Sto K) Int :=
  (mb (mu (m_check_left view)) fun u_81 =>
  (mb (mb (mb (mp view) fun x_82 => mb (mp ()) fun z83 => mp (x_82, z83)) fun z84 => (m_told_and_writes z84.1)) fun x_85 => mp x_85.1))
abbrev sp_three_told (K : PySem.W.Frag) : Sp := Prom (rIm K) (S := (Sto K)) (fun i : (Sv Int) => [.im (pv K i)]) fun i => m_three_told i
theorem len_three_told : ∀ vs H Q E, sp_three_told K vs H Q E → vs.length = 1 := prom_len (S := (Sto K)) (Ret := (rIm K)) (As := fun i : (Sv Int) => [.im (pv K i)]) (m := fun i => m_three_told i) fun _ => rfl
theorem sc_three_told : FnScope ["view"] ["view"] (defScope (top 21)) := ⟨rfl, rfl, rfl, by decide +kernel, rfl, by decide +kernel, by decide +kernel⟩
theorem fo_three_told {f : Addr} {fd : FuncData} (F : FnP K "three_told" (top 21) f fd) (C_check_left : Cal P w K mg base 5 "check_left" ["view"] (sp_check_left K)) (C_told_and_writes : Cal P w K mg base 4 "told_and_writes" ["view"] (sp_told_and_writes K)) : FnOk P w K mg base CX0 6 f fd ["view"] (sp_three_told K) := by
  obtain ⟨f_check_left, fd_check_left, G_check_left, g_check_left, kp_check_left, bi_check_left⟩ := C_check_left.ex
  obtain ⟨f_told_and_writes, fd_told_and_writes, G_told_and_writes, g_told_and_writes, kp_told_and_writes, bi_told_and_writes⟩ := C_told_and_writes.ex
  refine F.ok sc_three_told (len_three_told (K := K)) (fun cdv A outer s H vs Q E hr h => ?_)
  have hl : vs.length = 1 := len_three_told (K := K) vs H Q E h
  match vs, hl, h with
  | [v0], _, h => exact ⟨_, PSs.nox ((pss_cons (ps_expr (pe_call G_check_left (hr.mono (Nat.le_of_ble_eq_true rfl)) rfl g_check_left kp_check_left bi_check_left .nil pass0 (pa_cons (L2.pv 0) pa_nil))) (pss_one (ps_ret (pe_ix ix_tup (pe_call G_told_and_writes (hr.mono (Nat.le_of_ble_eq_true rfl)) rfl g_told_and_writes kp_told_and_writes bi_told_and_writes .nil pass0 (pa_cons (L2.pv 0) pa_nil)) pe_int (fun _ _ => rfl)))))), prom_ok (n := 1) (S := (Sto K)) (Ret := (rIm K)) (As := fun i : (Sv Int) => [.im (pv K i)]) (m := fun i => m_three_told i) 0 (fun _ => rfl) rfl (fun view => (show RN (rIm K) _ (fun (s : (Sto K)) => [.im (pv K view)]) (m_three_told view) (fun (s : (Sto K)) => [.no]) from (rn_of (rt_seq (rp_drop (em_of_eo (eo_call0 (i := view) (ps := [pv K view]) (fun _ => (ap_cons (ep_var rfl) ap_nil)) rfl))) fun u_81 => (rt_ret (em_opr (g := fun (u : (Int × Ref)) (_ : Int) => u.1) (em_of_eo (eo_callS (f := fun (z84 : (Sv Int) × Unit) => z84.1) (am_cons (em_pure fun _ => (ep_var rfl)) am_nil) (fun _ _ => rfl) fun _ _ => rfl)) (fun _ => (ep_int (K := K))) fun _ => pr2_0) fun s => (.cons (.no _) .nil)))))) h⟩
theorem ok_three_told {f : Addr} {fd : FuncData} (F : FnP K "three_told" (top 21) f fd) (hg : mg "three_told" = some (.ref f)) (C_check_left : Cal P w K mg base 5 "check_left" ["view"] (sp_check_left K)) (C_told_and_writes : Cal P w K mg base 4 "told_and_writes" ["view"] (sp_told_and_writes K)) : Cal P w K mg base 6 "three_told" ["view"] (sp_three_told K) := ⟨f, fd, fo_three_told F C_check_left C_told_and_writes, hg, F.kp, F.bindsN fun _ _ _ _ _ _ us hl => match us, hl with | [_], _ => rfl⟩
def m_three_mending (view : (Sv Int)) : Mn (Sto K) Ref :=
  (mb (mu (m_check_left view)) fun u_86 =>
  (mb (mb (mb (mp view) fun x_87 => mb (mp ()) fun z88 => mp (x_87, z88)) fun z89 => (m_told_and_writes z89.1)) fun x_90 => mp x_90.2))
abbrev sp_three_mending (K : PySem.W.Frag) : Sp := Prom (rIm K) (S := (Sto K)) (fun i : (Sv Int) => [.im (pv K i)]) fun i => m_three_mending i
theorem len_three_mending : ∀ vs H Q E, sp_three_mending K vs H Q E → vs.length = 1 := prom_len (S := (Sto K)) (Ret := (rIm K)) (As := fun i : (Sv Int) => [.im (pv K i)]) (m := fun i => m_three_mending i) fun _ => rfl
theorem sc_three_mending : FnScope ["view"] ["view"] (defScope (top 22)) := ⟨rfl, rfl, rfl, by decide +kernel, rfl, by decide +kernel, by decide +kernel⟩
theorem fo_three_mending {f : Addr} {fd : FuncData} (F : FnP K "three_mending" (top 22) f fd) (C_check_left : Cal P w K mg base 5 "check_left" ["view"] (sp_check_left K)) (C_told_and_writes : Cal P w K mg base 4 "told_and_writes" ["view"] (sp_told_and_writes K)) : FnOk P w K mg base CX0 6 f fd ["view"] (sp_three_mending K) := by
  obtain ⟨f_check_left, fd_check_left, G_check_left, g_check_left, kp_check_left, bi_check_left⟩ := C_check_left.ex
  obtain ⟨f_told_and_writes, fd_told_and_writes, G_told_and_writes, g_told_and_writes, kp_told_and_writes, bi_told_and_writes⟩ := C_told_and_writes.ex
  refine F.ok sc_three_mending (len_three_mending (K := K)) (fun cdv A outer s H vs Q E hr h => ?_)
  have hl : vs.length = 1 := len_three_mending (K := K) vs H Q E h
  match vs, hl, h with
  | [v0], _, h => exact ⟨_, PSs.nox ((pss_cons (ps_expr (pe_call G_check_left (hr.mono (Nat.le_of_ble_eq_true rfl)) rfl g_check_left kp_check_left bi_check_left .nil pass0 (pa_cons (L2.pv 0) pa_nil))) (pss_one (ps_ret (pe_ix ix_tup (pe_call G_told_and_writes (hr.mono (Nat.le_of_ble_eq_true rfl)) rfl g_told_and_writes kp_told_and_writes bi_told_and_writes .nil pass0 (pa_cons (L2.pv 0) pa_nil)) pe_int (fun _ _ => rfl)))))), prom_ok (n := 1) (S := (Sto K)) (Ret := (rIm K)) (As := fun i : (Sv Int) => [.im (pv K i)]) (m := fun i => m_three_mending i) 0 (fun _ => rfl) rfl (fun view => (show RN (rIm K) _ (fun (s : (Sto K)) => [.im (pv K view)]) (m_three_mending view) (fun (s : (Sto K)) => [.no]) from (rn_of (rt_seq (rp_drop (em_of_eo (eo_call0 (i := view) (ps := [pv K view]) (fun _ => (ap_cons (ep_var rfl) ap_nil)) rfl))) fun u_86 => (rt_ret (em_opr (g := fun (u : (Int × Ref)) (_ : Int) => u.2) (em_of_eo (eo_callS (f := fun (z89 : (Sv Int) × Unit) => z89.1) (am_cons (em_pure fun _ => (ep_var rfl)) am_nil) (fun _ _ => rfl) fun _ _ => rfl)) (fun _ => (ep_int (K := K))) fun _ => pr2_1) fun s => (.cons (.no _) .nil)))))) h⟩
theorem ok_three_mending {f : Addr} {fd : FuncData} (F : FnP K "three_mending" (top 22) f fd) (hg : mg "three_mending" = some (.ref f)) (C_check_left : Cal P w K mg base 5 "check_left" ["view"] (sp_check_left K)) (C_told_and_writes : Cal P w K mg base 4 "told_and_writes" ["view"] (sp_told_and_writes K)) : Cal P w K mg base 6 "three_mending" ["view"] (sp_three_mending K) := ⟨f, fd, fo_three_mending F C_check_left C_told_and_writes, hg, F.kp, F.bindsN fun _ _ _ _ _ _ us hl => match us, hl with | [_], _ => rfl⟩
def gl_three_mending__view : List Value → List Value → List Value
  | [], [a0] => [a0]
  | _, _ => []
def gv_three_mending__view : List V → List V → List V
  | [], [a0] => [a0]
  | _, _ => []
theorem kb_three_mending__view {f : Addr} {fd : FuncData} (F : FnP K "three_mending" (top 22) f fd) : KBinds K fd ["view"] ["view"] gl_three_mending__view gv_three_mending__view := by
  obtain ⟨oc, od, dV, kV, doc, pm, an, cdv, ct, osl, rfl, lk, hcd, hD, hK⟩ := F.ex
  rcases hD with ⟨_, rfl⟩ | ⟨e, _⟩
  · refine ⟨fun s us ws X hl => ?_, fun {vs us zs ws} r1 r2 => ?_⟩
    · match us, ws, hl with
      | [], [a0], _ => exact .of_eq rfl
    · match vs, us, zs, ws, r1, r2 with
      | [], [], [_], [_], .nil, (.cons r0 .nil) => exact (.cons r0 .nil)
      | _ :: _, _ :: _, _, _, .cons _ _, _ => exact .nil
      | [], [], [], [], .nil, .nil => exact .nil
      | [], [], _ :: _ :: _, _ :: _ :: _, .nil, (.cons _ (.cons _ _)) => exact .nil
  · exact absurd rfl e
theorem okK_three_mending__view {f : Addr} {fd : FuncData} (F : FnP K "three_mending" (top 22) f fd) (hg : mg "three_mending" = some (.ref f)) (C_check_left : Cal P w K mg base 5 "check_left" ["view"] (sp_check_left K)) (C_told_and_writes : Cal P w K mg base 4 "told_and_writes" ["view"] (sp_told_and_writes K)) : CalK P w K mg base 6 "three_mending" ["view"] (sp_three_mending K) ["view"] gl_three_mending__view gv_three_mending__view := ⟨f, fd, fo_three_mending F C_check_left C_told_and_writes, hg, F.kp, kb_three_mending__view F⟩
def m_three_steps (view : (Sv Int)) (new : Int) : Mn (Sto K) (List (Int × Int)) :=
  (mb (mu (m_check_left view)) fun u_91 =>
  (mb (mb (mb (mp view) fun x_92 => mb (mp ()) fun z93 => mp (x_92, z93)) fun z94 => (m_told_and_writes z94.1)) fun z95 =>
  (mb (mb (mldT (Int × Int) z95.2) fun xs96 => mu (mp ((!decide (xs96 = ([] : (List (Int × Int))))) : Bool))) fun b => mi b
    mbad
    (mb (mb (mu (m_is_between new ((0 : Int) : Int) ((2 : Int) : Int))) fun b97 => mp (!b97)) fun b => mi b
    mbad
    (mb (mp (decide (new = z95.1))) fun b => mi b
    (mp ([] : (List (Int × Int))))
    (mb (mb (mp (enumL (Sq.mk view.t view.l).l)) fun xs => cmP xs (fun (a98 : (Int × Int)) => (mp (!decide (a98.2 = new)))) fun a98 => (mp ((a98.1, new) : (Int × Int)))) fun found99 =>
  (mb (mb (mu (m_following z95.1)) fun y101 => mp (decide (new = y101))) fun b => mi b (Mir.mg fun _ => found99) (mb (mp found99) fun xs => mp xs.reverse))))))))
abbrev sp_three_steps (K : PySem.W.Frag) : Sp := Prom (rOw (ol K)) (S := (Sto K)) (fun i : (Sv Int) × Int => [.im (pv K i.1), .im (pv K i.2)]) fun i => m_three_steps i.1 i.2
theorem len_three_steps : ∀ vs H Q E, sp_three_steps K vs H Q E → vs.length = 2 := prom_len (S := (Sto K)) (Ret := (rOw (ol K))) (As := fun i : (Sv Int) × Int => [.im (pv K i.1), .im (pv K i.2)]) (m := fun i => m_three_steps i.1 i.2) fun _ => rfl
theorem sc_three_steps : FnScope ["view", "new", "told", "writes", "found", "index", "content"] ["view", "new"] (defScope (top 23)) := ⟨rfl, rfl, rfl, by decide +kernel, rfl, by decide +kernel, by decide +kernel⟩
theorem fo_three_steps {f : Addr} {fd : FuncData} (F : FnP K "three_steps" (top 23) f fd) (b_enumerate : mg "enumerate" = none) (C_check_left : Cal P w K mg base 5 "check_left" ["view"] (sp_check_left K)) (C_told_and_writes : Cal P w K mg base 4 "told_and_writes" ["view"] (sp_told_and_writes K)) (C_is_between : Cal P w K mg base 2 "is_between" ["value", "least", "most"] (sp_is_between K)) (C_following : Cal P w K mg base 1 "following" ["value"] (sp_following K)) : FnOk P w K mg base CX0 6 f fd ["view", "new"] (sp_three_steps K) := by
  obtain ⟨f_check_left, fd_check_left, G_check_left, g_check_left, kp_check_left, bi_check_left⟩ := C_check_left.ex
  obtain ⟨f_told_and_writes, fd_told_and_writes, G_told_and_writes, g_told_and_writes, kp_told_and_writes, bi_told_and_writes⟩ := C_told_and_writes.ex
  obtain ⟨f_is_between, fd_is_between, G_is_between, g_is_between, kp_is_between, bi_is_between⟩ := C_is_between.ex
  obtain ⟨f_following, fd_following, G_following, g_following, kp_following, bi_following⟩ := C_following.ex
  refine F.ok sc_three_steps (len_three_steps (K := K)) (fun cdv A outer s H vs Q E hr h => ?_)
  have hl : vs.length = 2 := len_three_steps (K := K) vs H Q E h
  match vs, hl, h with
  | [v0, v1], _, h => exact ⟨_, PSs.nox ((pss_cons (ps_expr (pe_call G_check_left (hr.mono (Nat.le_of_ble_eq_true rfl)) rfl g_check_left kp_check_left bi_check_left .nil pass0 (pa_cons (L2.pv 0) pa_nil))) (pss_cons (ps_asg (pe_call G_told_and_writes (hr.mono (Nat.le_of_ble_eq_true rfl)) rfl g_told_and_writes kp_told_and_writes bi_told_and_writes .nil pass0 (pa_cons (L2.pv 0) pa_nil)) (pg_tup (n := 2) rfl (pgs_cons (pg_name (i := 2) sc_three_steps.nd rfl (Or.inl rfl)) (pgs_cons (pg_name (i := 3) sc_three_steps.nd rfl (Or.inl rfl)) pgs_nil)))) (pss_cons (ps_if (pt_cmpR (op_neD (hu64 hr)) (L2.pv 3) (pe_lst pa_nil) (nomark _)) (pss_one ps_never) pss_nil) (pss_cons (ps_if (pt_not (pt_val (pe_call G_is_between (hr.mono (Nat.le_of_ble_eq_true rfl)) rfl g_is_between kp_is_between bi_is_between .nil pass0 (pa_cons (L2.pv 1) (pa_cons pe_int (pa_cons pe_int pa_nil)))))) (pss_one ps_never) pss_nil) (pss_cons (ps_if (pt_cmpR op_eq (L2.pv 1) (L2.pv 2) (nomark _)) (pss_one (ps_ret (pe_lst pa_nil))) pss_nil) (pss_cons (ps_setLc (i := 4) (own := [("index", 5), ("content", 6)]) rfl sc_three_steps.nd rfl rfl (sw_true rfl rfl rfl (by decide +kernel)) (pi_alt (pi_enum rfl b_enumerate (pa_cons (L2.pv 0) pa_nil)) (EnT.pi_enT rfl b_enumerate (pa_cons (L2.pv 0) pa_nil))) (blkOk_by (own := [("index", 5), ("content", 6)]) (N := ["view", "new", "told", "writes", "found", "index", "content"]) (sc := defScope (top 23)) (by decide +kernel)) (fun _ _ _ _ _ => (pg_tup (n := 2) rfl (pgs_cons (pg_name (i := 5) sc_three_steps.nd rfl (Or.inl rfl)) (pgs_cons (pg_name (i := 6) sc_three_steps.nd rfl (Or.inl rfl)) pgs_nil)))) (fun _ _ _ _ _ => (pts_one (pt_cmpR op_ne (L2.pv 6) (L2.pv 1) (nomark _)))) (fun _ _ _ _ _ => (pe_tup (pa_cons (L2.pv 5) (pa_cons (L2.pv 1) pa_nil))))) (pss_one (ps_ret (pe_ifExp (pt_cmpR op_eq (L2.pv 1) (pe_call G_following (hr.mono (Nat.le_of_ble_eq_true rfl)) rfl g_following kp_following bi_following .nil pass0 (pa_cons (L2.pv 2) pa_nil)) (nomark _)) (L2.pv 4) (pe_revL (L2.pv 4)))))))))))), prom_ok (n := 2) (S := (Sto K)) (Ret := (rOw (ol K))) (As := fun i : (Sv Int) × Int => [.im (pv K i.1), .im (pv K i.2)]) (m := fun i => m_three_steps i.1 i.2) 5 (fun _ => rfl) rfl (fun (view, new) => (show RN (rOw (ol K)) _ (fun (s : (Sto K)) => [.im (pv K view), .im (pv K new), .no, .no, .no, .no, .no]) (m_three_steps view new) (fun (s : (Sto K)) => [.no, .no, .no, .no, .no, .no, .no]) from (rn_of (rt_seq (rp_drop (em_of_eo (eo_call0 (i := view) (ps := [pv K view]) (fun _ => (ap_cons (ep_var rfl) ap_nil)) rfl))) fun u_91 => (rt_seq (rp_tup (Γ := fun (s : (Sto K)) => [.im (pv K view), .im (pv K new), .no, .no, .no, .no, .no]) (Γ' := fun (z95 : (Int × Ref)) (s : (Sto K)) => [.im (pv K view), .im (pv K new), .im (pv K z95.1), .im (pv K z95.2), .no, .no, .no]) (em_of_eo (eo_callS (f := fun (z94 : (Sv Int) × Unit) => z94.1) (am_cons (em_pure fun _ => (ep_var rfl)) am_nil) (fun _ _ => rfl) fun _ _ => rfl)) fun z95 s => (gt_2 (gt_name (Γ := [.im (pv K view), .im (pv K new), .no, .no, .no, .no, .no]) (i := 2) (Γ' := [.im (pv K view), .im (pv K new), .im (pv K z95.1), .no, .no, .no, .no]) rfl rfl) (gt_name (Γ := [.im (pv K view), .im (pv K new), .im (pv K z95.1), .no, .no, .no, .no]) (i := 3) (Γ' := [.im (pv K view), .im (pv K new), .im (pv K z95.1), .im (pv K z95.2), .no, .no, .no]) rfl rfl))) fun z95 => (rt_ifr (tm_test (em_borR (r := z95.2) (Γ0 := [.im (pv K view), .im (pv K new), .im (pv K z95.1), .im (pv K z95.2), .no, .no, .no]) (j := 3) (Γ1 := fun xs96 => [.im (pv K view), .im (pv K new), .im (pv K z95.1), .im (pv K xs96), .no, .no, .no]) (fun _ => (.cons (.rfl _) (.cons (.rfl _) (.cons (.rfl _) (.cons (.rfl _) (.cons (.rfl _) (.cons (.rfl _) (.cons (.rfl _) .nil)))))))) rfl rfl (fun _ => rfl) (fun xs96 => (em_pure fun _ => (ep_op (ep_var rfl) (ep_lst (xs := ([] : (List (Int × Int)))) (hl := Nat.le_of_ble_eq_true rfl) ap_nil) (o_neDt (Nat.le_of_ble_eq_true rfl))))) fun _ => rfl)) rt_never (rt_ifr (tm_not (tm_B (em_of_eo (eo_call0 (i := (new, ((0 : Int) : Int), ((2 : Int) : Int))) (ps := [pv K new, pv K ((0 : Int) : Int), pv K ((2 : Int) : Int)]) (fun _ => (ap_cons (ep_var rfl) (ap_cons (ep_int (K := K)) (ap_cons (ep_int (K := K)) ap_nil)))) rfl)))) rt_never (rt_ifr (tm_pure fun _ => (tp_test (ep_op (ep_var rfl) (ep_var rfl) o_eq))) (rt_reto (eo_lst (xs := ([] : (List (Int × Int)))) (fun _ => ap_nil)) fun s => (.cons (.no _) (.cons (.no _) (.cons (.no _) (.cons (.no _) (.cons (.rfl _) (.cons (.rfl _) (.cons (.rfl _) .nil)))))))) (rt_seq (rp_take (Γ := fun (s : (Sto K)) => [.im (pv K view), .im (pv K new), .im (pv K z95.1), .im (pv K z95.2), .no, .no, .no]) (i := 4) (Γ' := fun found99 (s : (Sto K)) => [.im (pv K view), .im (pv K new), .im (pv K z95.1), .im (pv K z95.2), .ow (ol K found99), .no, .no]) (eo_lc (vs := [5, 6]) (Γ := (fun (s : (Sto K)) => [.im (pv K view), .im (pv K new), .im (pv K z95.1), .im (pv K z95.2), .no, .no, .no])) (Γx := fun (a98 : (Int × Int)) (s : (Sto K)) => [.im (pv K view), .im (pv K new), .im (pv K z95.1), .im (pv K z95.2), .no, .im (pv K a98.1), .im (pv K a98.2)]) (js := [5, 6]) (im_enSq fun _ => (ap_cons (ep_svQ (ep_var rfl)) ap_nil)) (fun _ => rfl) (fun a98 s => (gt_2 (gt_name (Γ := [.im (pv K view), .im (pv K new), .im (pv K z95.1), .im (pv K z95.2), .no, .no, .no]) (i := 5) (Γ' := [.im (pv K view), .im (pv K new), .im (pv K z95.1), .im (pv K z95.2), .no, .im (pv K a98.1), .no]) rfl rfl) (gt_name (Γ := [.im (pv K view), .im (pv K new), .im (pv K z95.1), .im (pv K z95.2), .no, .im (pv K a98.1), .no]) (i := 6) (Γ' := [.im (pv K view), .im (pv K new), .im (pv K z95.1), .im (pv K z95.2), .no, .im (pv K a98.1), .im (pv K a98.2)]) rfl rfl))) rfl (fun a98 => (tm_pure fun _ => (tp_test (ep_op (ep_var rfl) (ep_var rfl) o_ne)))) (fun a98 => (em_pure fun _ => (ep_tup (ap_cons (ep_var rfl) (ap_cons (ep_var rfl) ap_nil)) tup2))) fun a98 s => (.cons (.rfl _) (.cons (.rfl _) (.cons (.rfl _) (.cons (.rfl _) (.cons (.rfl _) (.cons (.no _) (.cons (.no _) .nil)))))))) (fun _ => rfl) (fun _ => Nat.le_of_ble_eq_true rfl) fun _ _ => rfl) fun found99 => (rt_ifE (tm_test (em_opl (g := fun (u : Int) (v : Int) => decide (u = v)) (fun _ => (ep_var rfl)) (em_of_eo (eo_call0 (i := z95.1) (ps := [pv K z95.1]) (fun _ => (ap_cons (ep_var rfl) ap_nil)) rfl)) fun _ => o_eq)) (rt_retv (fun s => rfl) (fun s I a Ma h => h) fun s => (.cons (.no _) (.cons (.no _) (.cons (.no _) (.cons (.no _) (.cons (.rfl _) (.cons (.rfl _) (.cons (.rfl _) .nil)))))))) (rt_reto (eo_backV (ev_own (j := 4) fun _ => rfl)) fun s => (.cons (.no _) (.cons (.no _) (.cons (.no _) (.cons (.no _) (.cons (.drop _) (.cons (.rfl _) (.cons (.rfl _) .nil)))))))))))))))))) h⟩
theorem ok_three_steps {f : Addr} {fd : FuncData} (F : FnP K "three_steps" (top 23) f fd) (hg : mg "three_steps" = some (.ref f)) (b_enumerate : mg "enumerate" = none) (C_check_left : Cal P w K mg base 5 "check_left" ["view"] (sp_check_left K)) (C_told_and_writes : Cal P w K mg base 4 "told_and_writes" ["view"] (sp_told_and_writes K)) (C_is_between : Cal P w K mg base 2 "is_between" ["value", "least", "most"] (sp_is_between K)) (C_following : Cal P w K mg base 1 "following" ["value"] (sp_following K)) : Cal P w K mg base 6 "three_steps" ["view", "new"] (sp_three_steps K) := ⟨f, fd, fo_three_steps F b_enumerate C_check_left C_told_and_writes C_is_between C_following, hg, F.kp, F.bindsN fun _ _ _ _ _ _ us hl => match us, hl with | [_, _], _ => rfl⟩
def gl_three_steps__new_view : List Value → List Value → List Value
  | [], [a0, a1] => [a1, a0]
  | _, _ => []
def gv_three_steps__new_view : List V → List V → List V
  | [], [a0, a1] => [a1, a0]
  | _, _ => []
theorem kb_three_steps__new_view {f : Addr} {fd : FuncData} (F : FnP K "three_steps" (top 23) f fd) : KBinds K fd ["view", "new"] ["new", "view"] gl_three_steps__new_view gv_three_steps__new_view := by
  obtain ⟨oc, od, dV, kV, doc, pm, an, cdv, ct, osl, rfl, lk, hcd, hD, hK⟩ := F.ex
  rcases hD with ⟨_, rfl⟩ | ⟨e, _⟩
  · refine ⟨fun s us ws X hl => ?_, fun {vs us zs ws} r1 r2 => ?_⟩
    · match us, ws, hl with
      | [], [a0, a1], _ => exact .of_eq rfl
    · match vs, us, zs, ws, r1, r2 with
      | [], [], [_, _], [_, _], .nil, (.cons r0 (.cons r1 .nil)) => exact (.cons r1 (.cons r0 .nil))
      | _ :: _, _ :: _, _, _, .cons _ _, _ => exact .nil
      | [], [], [], [], .nil, .nil => exact .nil
      | [], [], [_], [_], .nil, (.cons _ .nil) => exact .nil
      | [], [], _ :: _ :: _ :: _, _ :: _ :: _ :: _, .nil, (.cons _ (.cons _ (.cons _ _))) => exact .nil
  · exact absurd rfl e
theorem okK_three_steps__new_view {f : Addr} {fd : FuncData} (F : FnP K "three_steps" (top 23) f fd) (hg : mg "three_steps" = some (.ref f)) (b_enumerate : mg "enumerate" = none) (C_check_left : Cal P w K mg base 5 "check_left" ["view"] (sp_check_left K)) (C_told_and_writes : Cal P w K mg base 4 "told_and_writes" ["view"] (sp_told_and_writes K)) (C_is_between : Cal P w K mg base 2 "is_between" ["value", "least", "most"] (sp_is_between K)) (C_following : Cal P w K mg base 1 "following" ["value"] (sp_following K)) : CalK P w K mg base 6 "three_steps" ["view", "new"] (sp_three_steps K) ["new", "view"] gl_three_steps__new_view gv_three_steps__new_view := ⟨f, fd, fo_three_steps F b_enumerate C_check_left C_told_and_writes C_is_between C_following, hg, F.kp, kb_three_steps__new_view F⟩
def m__law_cell (script : Scr) (k : Int) : Mn Unit Int :=
  (mb (mp (decide (k < ((script.l.length : Nat) : Int)))) fun b102 => mi b102 (mo (atI script.l k)) (mp (((((6007 : Int) * k) + (40 : Int)) + (((cutL script.l none (some (1 : Int)))).sum % (1000033 : Int))) : Int)))
abbrev sp__law_cell (K : PySem.W.Frag) : Sp := Prom (rIm K) (S := Unit) (fun i : Scr × Int => [.im (pv K i.1), .im (pv K i.2)]) fun i => m__law_cell i.1 i.2
theorem len__law_cell : ∀ vs H Q E, sp__law_cell K vs H Q E → vs.length = 2 := prom_len (S := Unit) (Ret := (rIm K)) (As := fun i : Scr × Int => [.im (pv K i.1), .im (pv K i.2)]) (m := fun i => m__law_cell i.1 i.2) fun _ => rfl
theorem sc__law_cell : FnScope ["script", "k"] ["script", "k"] (defScope (top 25)) := ⟨rfl, rfl, rfl, by decide +kernel, rfl, by decide +kernel, by decide +kernel⟩
theorem fo__law_cell {f : Addr} {fd : FuncData} (F : FnP K "_law_cell" (top 25) f fd) (b_int : mg "int" = none) (b_len : mg "len" = none) (b_sum : mg "sum" = none) : FnOk P w K mg base CX0 1 f fd ["script", "k"] (sp__law_cell K) := by
  refine F.ok sc__law_cell (len__law_cell (K := K)) (fun cdv A outer s H vs Q E hr h => ?_)
  have hl : vs.length = 2 := len__law_cell (K := K) vs H Q E h
  match vs, hl, h with
  | [v0, v1], _, h => exact ⟨_, PSs.nox ((pss_one (ps_ret (pe_ifExp (pt_cmpR op_lt (L2.pv 1) (pe_callB call_len_seq rfl b_len bt_len (pa_cons (L2.pv 0) pa_nil)) (nomark _)) (pe_ix ix_list (L2.pv 0) (L2.pv 1) (fun _ _ => rfl)) (pe_op op_add (pe_op op_add (pe_op op_mul pe_int (L2.pv 1)) pe_int) (pe_op op_mod (pe_callTy call_int1 rfl b_int bt_int (pa_cons (pe_callB (cr_sum rfl) rfl b_sum bt_sum (pa_cons (pe_slice sl_list (L2.pv 0) po_none (po_some pe_int)) pa_nil)) pa_nil)) pe_int)))))), prom_ok (n := 2) (S := Unit) (Ret := (rIm K)) (As := fun i : Scr × Int => [.im (pv K i.1), .im (pv K i.2)]) (m := fun i => m__law_cell i.1 i.2) 0 (fun _ => rfl) rfl (fun (script, k) => (show RN (rIm K) _ (fun (s : Unit) => [.im (pv K script), .im (pv K k)]) (m__law_cell script k) (fun (s : Unit) => [.no, .no]) from (rn_of (rt_ret (em_if (tm_pure fun _ => (tp_test (ep_op (ep_var rfl) (ep_cb (ap_cons (ep_var rfl) ap_nil) c_lenS) o_lt))) (em_ixSp (fun _ => (ep_var rfl)) fun _ => (ep_var rfl)) (em_pure fun _ => (ep_op (ep_op (ep_op (ep_int (K := K)) (ep_var rfl) (o_mulL rfl)) (ep_int (K := K)) o_add) (ep_op (ep_cb (ap_cons (ep_cb (ap_cons (ep_slS (ep_var rfl) po_no (po_i (ep_int (K := K)))) ap_nil) c_sum) ap_nil) c_int) (ep_int (K := K)) (o_mod rfl)) o_add))) fun s => (.cons (.no _) (.cons (.no _) .nil)))))) h⟩
theorem ok__law_cell {f : Addr} {fd : FuncData} (F : FnP K "_law_cell" (top 25) f fd) (hg : mg "_law_cell" = some (.ref f)) (b_int : mg "int" = none) (b_len : mg "len" = none) (b_sum : mg "sum" = none) : Cal P w K mg base 1 "_law_cell" ["script", "k"] (sp__law_cell K) := ⟨f, fd, fo__law_cell F b_int b_len b_sum, hg, F.kp, F.bindsN fun _ _ _ _ _ _ us hl => match us, hl with | [_, _], _ => rfl⟩
def m__law_box (great : Int) : Mn (Sto K) Ref :=
  (mb (mb (mp ((if great < 0 then -great else great) : Int)) fun x_109 => mb (mb (mp (decide (((10 : Int) ^ (18 : Int).toNat) ≤ (if great < 0 then -great else great)) : Bool)) fun x_107 => mb (mb (mp (((if great < 0 then -great else great) % (2147483629 : Int)) : Int)) fun x_105 => mb (mb (mp ((0 : Int) : Int)) fun x_103 => mb (mp ()) fun z104 => mp (x_103, z104)) fun z106 => mp (x_105, z106)) fun z108 => mp (x_107, z108)) fun z110 => mp (x_109, z110)) fun z111 => mnew (.lst [PyT.enc z111.1, PyT.enc z111.2.1, PyT.enc z111.2.2.1, PyT.enc z111.2.2.2.1]))
abbrev sp__law_box (K : PySem.W.Frag) : Sp := Prom (rIm K) (S := (Sto K)) (fun i : Int => [.im (pv K i)]) fun i => m__law_box i
theorem len__law_box : ∀ vs H Q E, sp__law_box K vs H Q E → vs.length = 1 := prom_len (S := (Sto K)) (Ret := (rIm K)) (As := fun i : Int => [.im (pv K i)]) (m := fun i => m__law_box i) fun _ => rfl
theorem sc__law_box : FnScope ["great"] ["great"] (defScope (top 26)) := ⟨rfl, rfl, rfl, by decide +kernel, rfl, by decide +kernel, by decide +kernel⟩
theorem fo__law_box {f : Addr} {fd : FuncData} (F : FnP K "_law_box" (top 26) f fd) (b_abs : mg "abs" = none) (b_int : mg "int" = none) : FnOk P w K mg base CX0 1 f fd ["great"] (sp__law_box K) := by
  refine F.ok sc__law_box (len__law_box (K := K)) (fun cdv A outer s H vs Q E hr h => ?_)
  have hl : vs.length = 1 := len__law_box (K := K) vs H Q E h
  match vs, hl, h with
  | [v0], _, h => exact ⟨_, PSs.nox ((pss_one (ps_ret (pe_lst (pa_cons (pe_callB call_abs rfl b_abs bt_abs (pa_cons (L2.pv 0) pa_nil)) (pa_cons (pe_cmpR op_ge (pe_callB call_abs rfl b_abs bt_abs (pa_cons (L2.pv 0) pa_nil)) (pe_op op_pow pe_int pe_int) (nomark _)) (pa_cons (pe_op op_mod (pe_callTy call_int1 rfl b_int bt_int (pa_cons (pe_callB call_abs rfl b_abs bt_abs (pa_cons (L2.pv 0) pa_nil)) pa_nil)) pe_int) (pa_cons pe_int pa_nil)))))))), prom_ok (n := 1) (S := (Sto K)) (Ret := (rIm K)) (As := fun i : Int => [.im (pv K i)]) (m := fun i => m__law_box i) 0 (fun _ => rfl) rfl (fun great => (show RN (rIm K) _ (fun (s : (Sto K)) => [.im (pv K great)]) (m__law_box great) (fun (s : (Sto K)) => [.no]) from (rn_of (rt_ret (em_newL (items := fun (z111 : Int × Bool × Int × Int × Unit) => [PyT.enc z111.1, PyT.enc z111.2.1, PyT.enc z111.2.2.1, PyT.enc z111.2.2.2.1]) (am_cons (em_pure fun _ => (ep_cb (ap_cons (ep_var rfl) ap_nil) c_abs)) (am_cons (em_pure fun _ => (ep_op (ep_cb (ap_cons (ep_var rfl) ap_nil) c_abs) (ep_op (ep_int (K := K)) (ep_int (K := K)) (o_pow rfl)) o_ge)) (am_cons (em_pure fun _ => (ep_op (ep_cb (ap_cons (ep_cb (ap_cons (ep_var rfl) ap_nil) c_abs) ap_nil) c_int) (ep_int (K := K)) (o_mod rfl))) (am_cons (em_pure fun _ => (ep_int (K := K))) am_nil)))) (by intro z I vs h; obtain ⟨_, _, rfl, r0, h⟩ := all2_c h; obtain ⟨_, _, rfl, r1, h⟩ := all2_c h; obtain ⟨_, _, rfl, r2, h⟩ := all2_c h; obtain ⟨_, _, rfl, r3, h⟩ := all2_c h; cases all2_n h; exact ⟨_, _, rfl, PyT.rel r0, ⟨_, _, rfl, PyT.rel r1, ⟨_, _, rfl, PyT.rel r2, ⟨_, _, rfl, PyT.rel r3, rfl⟩⟩⟩⟩) (fun _ => Nat.le_of_ble_eq_true rfl) fun _ _ => rfl) fun s => (.cons (.no _) .nil))))) h⟩
theorem ok__law_box {f : Addr} {fd : FuncData} (F : FnP K "_law_box" (top 26) f fd) (hg : mg "_law_box" = some (.ref f)) (b_abs : mg "abs" = none) (b_int : mg "int" = none) : Cal P w K mg base 1 "_law_box" ["great"] (sp__law_box K) := ⟨f, fd, fo__law_box F b_abs b_int, hg, F.kp, F.bindsN fun _ _ _ _ _ _ us hl => match us, hl with | [_], _ => rfl⟩
def m__law_take (box : Ref) (many : Int) : Mn (Sto K) Int :=
  (mb (mb (mb (mp ((1 : Int) : Int)) fun i112 => mb (mldL box) fun xs => mo ((atI xs i112).bind (PyT.dec (α := Bool)))) fun b116 => mi b116 (mb (mb (mp ((0 : Int) : Int)) fun i113 => mb (mldL box) fun xs => mo ((atI xs i113).bind (PyT.dec (α := Int)))) fun x_114 => mp (decide ((0 : Int) < x_114))) (mp false)) fun b => mi b
    (mb (mb (mb (mb (mb (mp ((0 : Int) : Int)) fun i117 => mb (mldL box) fun xs => mo ((atI xs i117).bind (PyT.dec (α := Int)))) fun x_118 => mb (mp ()) fun z119 => mp (x_118, z119)) fun z120 => mp z120.1) fun x_121 => mc (modOk many) (x_121 % many)) fun digit123 =>
  (mb (mb (mb (mb (mp ((0 : Int) : Int)) fun i124 => mb (mldL box) fun xs => mo ((atI xs i124).bind (PyT.dec (α := Int)))) fun x_125 => mc (divOk many) (x_125 / many)) fun (x_128 : Int) => mb (mp ((0 : Int) : Int)) fun i129 => mb (mldL box) fun xs => mb (mo (ixN xs.length i129)) fun k => mput box (.lst (xs.set k (PyT.enc x_128)))) fun u_127 =>
  (mp digit123)))
    (mb (mb (mb (mb (mp ((3 : Int) : Int)) fun i130 => mb (mldL box) fun xs => mo ((atI xs i130).bind (PyT.dec (α := Int)))) fun x_131 => mp (x_131 + (1 : Int))) fun (x_134 : Int) => mb (mp ((3 : Int) : Int)) fun i135 => mb (mldL box) fun xs => mb (mo (ixN xs.length i135)) fun k => mput box (.lst (xs.set k (PyT.enc x_134)))) fun u_133 =>
  (mb (mb (mb (mb (mb (mb (mb (mb (mp ((2 : Int) : Int)) fun i136 => mb (mldL box) fun xs => mo ((atI xs i136).bind (PyT.dec (α := Int)))) fun x_140 => mb (mb (mb (mp ((3 : Int) : Int)) fun i137 => mb (mldL box) fun xs => mo ((atI xs i137).bind (PyT.dec (α := Int)))) fun y139 => mp ((104395301 : Int) * y139)) fun y141 => mp (x_140 + y141)) fun x_142 => mp (x_142 + (179424673 : Int))) fun x_144 => mc (powOk x_144 (5 : Int)) (x_144 ^ (5 : Int).toNat)) fun x_146 => mb (mp ()) fun z147 => mp (x_146, z147)) fun z148 => mp z148.1) fun x_149 => mp (x_149 % (2147483647 : Int))) fun mixed151 =>
  (mb (mb (mb (mb (mb (mb (mb (mb (mb (mb (mb (mp ((3 : Int) : Int)) fun i152 => mb (mldL box) fun xs => mo ((atI xs i152).bind (PyT.dec (α := Int)))) fun y154 => mp ((104729 : Int) * y154)) fun y156 => mp ((mixed151 * (48271 : Int)) + y156)) fun x_157 => mc (powOk x_157 (3 : Int)) (x_157 ^ (3 : Int).toNat)) fun x_159 => mb (mp ()) fun z160 => mp (x_159, z160)) fun z161 => mp z161.1) fun x_162 => mp (x_162 % (2147483587 : Int))) fun x_164 => mp (x_164 / (64 : Int))) fun x_166 => mb (mp ()) fun z167 => mp (x_166, z167)) fun z168 => mp z168.1) fun x_169 => mc (modOk many) (x_169 % many)))))
abbrev sp__law_take (K : PySem.W.Frag) : Sp := Prom (rIm K) (S := (Sto K)) (fun i : Ref × Int => [.im (pv K i.1), .im (pv K i.2)]) fun i => m__law_take i.1 i.2
theorem len__law_take : ∀ vs H Q E, sp__law_take K vs H Q E → vs.length = 2 := prom_len (S := (Sto K)) (Ret := (rIm K)) (As := fun i : Ref × Int => [.im (pv K i.1), .im (pv K i.2)]) (m := fun i => m__law_take i.1 i.2) fun _ => rfl
theorem sc__law_take : FnScope ["box", "many", "digit", "mixed"] ["box", "many"] (defScope (top 27)) := ⟨rfl, rfl, rfl, by decide +kernel, rfl, by decide +kernel, by decide +kernel⟩
theorem fo__law_take {f : Addr} {fd : FuncData} (F : FnP K "_law_take" (top 27) f fd) (b_int : mg "int" = none) : FnOk P w K mg base CX0 1 f fd ["box", "many"] (sp__law_take K) := by
  refine F.ok sc__law_take (len__law_take (K := K)) (fun cdv A outer s H vs Q E hr h => ?_)
  have hl : vs.length = 2 := len__law_take (K := K) vs H Q E h
  match vs, hl, h with
  | [v0, v1], _, h => exact ⟨_, PSs.nox ((pss_cons (ps_if (PW.pt (pw_and (pt_val (pe_ix ix_list (L2.pv 0) pe_int (fun _ _ => rfl))) (pw_and1 (pt_cmpR op_gt (pe_ix ix_list (L2.pv 0) pe_int (fun _ _ => rfl)) pe_int (nomark _))))) (pss_cons (ps_set (i := 2) sc__law_take.nd rfl (Or.inl rfl) (pe_op op_mod (pe_callTy call_int1 rfl b_int bt_int (pa_cons (pe_ix ix_list (L2.pv 0) pe_int (fun _ _ => rfl)) pa_nil)) (L2.pv 1))) (pss_cons (ps_asg (pe_op op_fdivW (pe_ix ix_list (L2.pv 0) pe_int (fun _ _ => rfl)) (L2.pv 1)) (pg_sub (L2.pv 0) pe_int set_list)) (pss_one (ps_ret (L2.pv 2))))) pss_nil) (pss_cons (ps_asg (pe_op op_add (pe_ix ix_list (L2.pv 0) pe_int (fun _ _ => rfl)) pe_int) (pg_sub (L2.pv 0) pe_int set_list)) (pss_cons (ps_set (i := 3) sc__law_take.nd rfl (Or.inl rfl) (pe_op op_mod (pe_callTy call_int1 rfl b_int bt_int (pa_cons (pe_op op_pow (pe_op op_add (pe_op op_add (pe_ix ix_list (L2.pv 0) pe_int (fun _ _ => rfl)) (pe_op op_mul pe_int (pe_ix ix_list (L2.pv 0) pe_int (fun _ _ => rfl)))) pe_int) pe_int) pa_nil)) pe_int)) (pss_one (ps_ret (pe_op op_mod (pe_callTy call_int1 rfl b_int bt_int (pa_cons (pe_op op_fdivW (pe_op op_mod (pe_callTy call_int1 rfl b_int bt_int (pa_cons (pe_op op_pow (pe_op op_add (pe_op op_mul (L2.pv 3) pe_int) (pe_op op_mul pe_int (pe_ix ix_list (L2.pv 0) pe_int (fun _ _ => rfl)))) pe_int) pa_nil)) pe_int) pe_int) pa_nil)) (L2.pv 1)))))))), prom_ok (n := 2) (S := (Sto K)) (Ret := (rIm K)) (As := fun i : Ref × Int => [.im (pv K i.1), .im (pv K i.2)]) (m := fun i => m__law_take i.1 i.2) 2 (fun _ => rfl) rfl (fun (box, many) => (show RN (rIm K) _ (fun (s : (Sto K)) => [.im (pv K box), .im (pv K many), .no, .no]) (m__law_take box many) (fun (s : (Sto K)) => [.no, .no, .no, .no]) from (rn_of (rt_ifr (tm_and (tm_B (em_ixR (r := box) (fun _ => (ep_var rfl)) (em_pure fun _ => (ep_int (K := K))))) (tm_test (em_opr (g := fun (u : Int) (v : Int) => decide (v < u)) (em_ixR (r := box) (fun _ => (ep_var rfl)) (em_pure fun _ => (ep_int (K := K)))) (fun _ => (ep_int (K := K))) fun _ => o_gt))) (rt_seq (rp_asg (Γ := fun (s : (Sto K)) => [.im (pv K box), .im (pv K many), .no, .no]) (i := 2) (Γ' := fun digit123 (s : (Sto K)) => [.im (pv K box), .im (pv K many), .im (pv K digit123), .no]) (em_oprC (g := fun (u : Int) (v : Int) => (u % v)) (c := fun (u : Int) (v : Int) => modOk v) (em_cb (f := fun (z120 : Int × Unit) => z120.1) (am_cons (em_ixR (r := box) (fun _ => (ep_var rfl)) (em_pure fun _ => (ep_int (K := K)))) am_nil) fun _ => c_int) (fun _ => (ep_var rfl)) fun _ h => (o_mod h)) (fun _ => rfl) fun _ _ => rfl) fun digit123 => (rt_seq (rp_setR (r := box) (em_oprC (g := fun (u : Int) (v : Int) => (u / v)) (c := fun (u : Int) (v : Int) => divOk v) (em_ixR (r := box) (fun _ => (ep_var rfl)) (em_pure fun _ => (ep_int (K := K)))) (fun _ => (ep_var rfl)) fun _ h => (o_divW h)) (fun _ => (ep_var rfl)) (em_pure fun _ => (ep_int (K := K))) fun _ _ => rfl) fun u_127 => (rt_ret (em_pure fun _ => (ep_var rfl)) fun s => (.cons (.no _) (.cons (.no _) (.cons (.no _) (.cons (.rfl _) .nil))))))) (rt_seq (rp_setR (r := box) (em_opr (g := fun (u : Int) (v : Int) => (u + v)) (em_ixR (r := box) (fun _ => (ep_var rfl)) (em_pure fun _ => (ep_int (K := K)))) (fun _ => (ep_int (K := K))) fun _ => o_add) (fun _ => (ep_var rfl)) (em_pure fun _ => (ep_int (K := K))) fun _ _ => rfl) fun u_133 => (rt_seq (rp_asg (Γ := fun (s : (Sto K)) => [.im (pv K box), .im (pv K many), .no, .no]) (i := 3) (Γ' := fun mixed151 (s : (Sto K)) => [.im (pv K box), .im (pv K many), .no, .im (pv K mixed151)]) (em_opr (g := fun (u : Int) (v : Int) => (u % v)) (em_cb (f := fun (z148 : Int × Unit) => z148.1) (am_cons (em_oprC (g := fun (u : Int) (v : Int) => (u ^ v.toNat)) (c := fun (u : Int) (v : Int) => powOk u v) (em_opr (g := fun (u : Int) (v : Int) => (u + v)) (em_op (g := fun (u : Int) (v : Int) => (u + v)) (em_ixR (r := box) (fun _ => (ep_var rfl)) (em_pure fun _ => (ep_int (K := K)))) (em_opl (g := fun (u : Int) (v : Int) => (u * v)) (fun _ => (ep_int (K := K))) (em_ixR (r := box) (fun _ => (ep_var rfl)) (em_pure fun _ => (ep_int (K := K)))) fun _ => (o_mulL rfl)) fun _ _ => o_add) (fun _ => (ep_int (K := K))) fun _ => o_add) (fun _ => (ep_int (K := K))) fun _ h => (o_pow h)) am_nil) fun _ => c_int) (fun _ => (ep_int (K := K))) fun _ => (o_mod rfl)) (fun _ => rfl) fun _ _ => rfl) fun mixed151 => (rt_ret (em_oprC (g := fun (u : Int) (v : Int) => (u % v)) (c := fun (u : Int) (v : Int) => modOk v) (em_cb (f := fun (z168 : Int × Unit) => z168.1) (am_cons (em_opr (g := fun (u : Int) (v : Int) => (u / v)) (em_opr (g := fun (u : Int) (v : Int) => (u % v)) (em_cb (f := fun (z161 : Int × Unit) => z161.1) (am_cons (em_oprC (g := fun (u : Int) (v : Int) => (u ^ v.toNat)) (c := fun (u : Int) (v : Int) => powOk u v) (em_opl (g := fun (u : Int) (v : Int) => (u + v)) (fun _ => (ep_op (ep_var rfl) (ep_int (K := K)) (o_mulR rfl))) (em_opl (g := fun (u : Int) (v : Int) => (u * v)) (fun _ => (ep_int (K := K))) (em_ixR (r := box) (fun _ => (ep_var rfl)) (em_pure fun _ => (ep_int (K := K)))) fun _ => (o_mulL rfl)) fun _ => o_add) (fun _ => (ep_int (K := K))) fun _ h => (o_pow h)) am_nil) fun _ => c_int) (fun _ => (ep_int (K := K))) fun _ => (o_mod rfl)) (fun _ => (ep_int (K := K))) fun _ => (o_divW rfl)) am_nil) fun _ => c_int) (fun _ => (ep_var rfl)) fun _ h => (o_mod h)) fun s => (.cons (.no _) (.cons (.no _) (.cons (.rfl _) (.cons (.no _) .nil))))))))))) h⟩
theorem ok__law_take {f : Addr} {fd : FuncData} (F : FnP K "_law_take" (top 27) f fd) (hg : mg "_law_take" = some (.ref f)) (b_int : mg "int" = none) : Cal P w K mg base 1 "_law_take" ["box", "many"] (sp__law_take K) := ⟨f, fd, fo__law_take F b_int, hg, F.kp, F.bindsN fun _ _ _ _ _ _ us hl => match us, hl with | [_, _], _ => rfl⟩
def m__law_form (view : (List Int)) (u_ : Int) : Mn Unit Bool :=
  (mb (mp ()) fun z171 =>
  (mb (mb (mp view) fun xs => forC (β := Empty) xs (0 : Int) fun a173 (t172 : Int) =>
    (mb (mp (!decide (a173 = ((u_ + (1 : Int)) % (3 : Int))))) fun b => mi b
      (mp (.br t172))
      (mb (mb (mp ((t172 + (1 : Int)) : Int)) fun ahead174 => mp ahead174) fun x => mp (.nx x)))) (ctk (fun t175 => (mb (mb (mb (mp view) fun xs => mp xs.reverse) fun xs => forC (β := Empty) xs (0 : Int) fun a177 (t176 : Int) =>
    (mb (mp (!decide (a177 = u_))) fun b => mi b
      (mp (.br t176))
      (mb (mb (mp ((t176 + (1 : Int)) : Int)) fun behind178 => mp behind178) fun x => mp (.nx x)))) (ctk (fun t179 => (mp (decide ((((view.length : Nat) : Int) - (1 : Int)) ≤ (t175 + t179)) : Bool))) fun _ => mbad))) fun _ => mbad)))
abbrev sp__law_form (K : PySem.W.Frag) : Sp := Prom (rIm K) (S := Unit) (fun i : (List Int) × Int => [.im (pv K i.1), .im (pv K i.2)]) fun i => m__law_form i.1 i.2
theorem len__law_form : ∀ vs H Q E, sp__law_form K vs H Q E → vs.length = 2 := prom_len (S := Unit) (Ret := (rIm K)) (As := fun i : (List Int) × Int => [.im (pv K i.1), .im (pv K i.2)]) (m := fun i => m__law_form i.1 i.2) fun _ => rfl
theorem sc__law_form : FnScope ["view", "u", "ahead", "behind", "content"] ["view", "u"] (defScope (top 28)) := ⟨rfl, rfl, rfl, by decide +kernel, rfl, by decide +kernel, by decide +kernel⟩
theorem fo__law_form {f : Addr} {fd : FuncData} (F : FnP K "_law_form" (top 28) f fd) (b_int : mg "int" = none) (b_len : mg "len" = none) : FnOk P w K mg base CX0 1 f fd ["view", "u"] (sp__law_form K) := by
  refine F.ok sc__law_form (len__law_form (K := K)) (fun cdv A outer s H vs Q E hr h => ?_)
  have hl : vs.length = 2 := len__law_form (K := K) vs H Q E h
  match vs, hl, h with
  | [v0, v1], _, h => exact ⟨_, PSs.nox ((pss_cons (ps_asg (pe_tup (pa_cons pe_int (pa_cons pe_int pa_nil))) (pg_tup (n := 2) rfl (pgs_cons (pg_name (i := 2) sc__law_form.nd rfl (Or.inl rfl)) (pgs_cons (pg_name (i := 3) sc__law_form.nd rfl (Or.inl rfl)) pgs_nil)))) (pss_cons (ps_for PassesOwn.never rfl (pi_list (L2.pv 0)) (pg_name (i := 4) sc__law_form.nd rfl (Or.inl rfl)) (pss_cons (ps_if (pt_cmpR op_ne (L2.pv 4) (pe_op op_mod (pe_callTy call_int1 rfl b_int bt_int (pa_cons (pe_op op_add (L2.pv 1) pe_int) pa_nil)) pe_int) (nomark _)) (pss_one ps_break) pss_nil) (pss_one (ps_set (i := 2) sc__law_form.nd rfl (Or.inl rfl) (pe_op op_add (L2.pv 2) pe_int))))) (pss_cons (ps_for PassesOwn.never rfl (pi_list (pe_revL (L2.pv 0))) (pg_name (i := 4) sc__law_form.nd rfl (Or.inl rfl)) (pss_cons (ps_if (pt_cmpR op_ne (L2.pv 4) (L2.pv 1) (nomark _)) (pss_one ps_break) pss_nil) (pss_one (ps_set (i := 3) sc__law_form.nd rfl (Or.inl rfl) (pe_op op_add (L2.pv 3) pe_int))))) (pss_one (ps_ret (pe_cmpR op_ge (pe_op op_add (L2.pv 2) (L2.pv 3)) (pe_op op_sub (pe_callB call_len_seq rfl b_len bt_len (pa_cons (L2.pv 0) pa_nil)) pe_int) (nomark _)))))))), prom_ok (n := 2) (S := Unit) (Ret := (rIm K)) (As := fun i : (List Int) × Int => [.im (pv K i.1), .im (pv K i.2)]) (m := fun i => m__law_form i.1 i.2) 3 (fun _ => rfl) rfl (fun (view, u_) => (show RN (rIm K) _ (fun (s : Unit) => [.im (pv K view), .im (pv K u_), .no, .no, .no]) (m__law_form view u_) (fun (s : Unit) => [.no, .no, .no, .no, .no]) from (rn_of (rt_seq (rp_asgT (Γ' := fun (z171 : Unit) (s : Unit) => [.im (pv K view), .im (pv K u_), .im (pv K ((0 : Int) : Int)), .im (pv K ((0 : Int) : Int)), .no]) [2, 3] (ao_p (fun _ => (ep_int (K := K))) (ao_p (fun _ => (ep_int (K := K))) ao_nil)) (fun _ => asg_ok rfl) (fun _ => rfl) (fun _ => rfl) (Nat.le_of_ble_eq_true rfl) fun _ _ => rfl) fun z171 => (rt_seqC (rc_for (β := Empty) (Γb := fun b _ => nomatch b) (Γr := (fun (s : Unit) => [.no, .no, .no, .no, .no])) (ΓL := fun (t172 : Int) (s : Unit) => [.im (pv K view), .im (pv K u_), .im (pv K t172), .im (pv K ((0 : Int) : Int)), .no]) (Γx := fun (a173 : Int) (t172 : Int) (s : Unit) => [.im (pv K view), .im (pv K u_), .im (pv K t172), .im (pv K ((0 : Int) : Int)), .im (pv K a173)]) (im_list fun _ => (ep_var rfl)) (fun s => (.cons (.rfl _) (.cons (.rfl _) (.cons (.rfl _) (.cons (.rfl _) (.cons (.rfl _) .nil)))))) (fun a173 t172 s => (gt_name (Γ := [.im (pv K view), .im (pv K u_), .im (pv K t172), .im (pv K ((0 : Int) : Int)), .no]) (i := 4) (Γ' := [.im (pv K view), .im (pv K u_), .im (pv K t172), .im (pv K ((0 : Int) : Int)), .im (pv K a173)]) rfl rfl)) fun a173 t172 => (rc_ifr (tm_pure fun _ => (tp_test (ep_op (ep_var rfl) (ep_op (ep_cb (ap_cons (ep_op (ep_var rfl) (ep_int (K := K)) o_add) ap_nil) c_int) (ep_int (K := K)) (o_mod rfl)) o_ne))) (rx_brk fun s => (.cons (.rfl _) (.cons (.rfl _) (.cons (.rfl _) (.cons (.rfl _) (.cons (.no _) .nil)))))) (rc_of_p (rp_post (f := fun ahead174 => ahead174) (rp_asg (Γ := fun (s : Unit) => [.im (pv K view), .im (pv K u_), .im (pv K t172), .im (pv K ((0 : Int) : Int)), .im (pv K a173)]) (i := 2) (Γ' := fun ahead174 (s : Unit) => [.im (pv K view), .im (pv K u_), .im (pv K ahead174), .im (pv K ((0 : Int) : Int)), .im (pv K a173)]) (em_pure fun _ => (ep_op (ep_var rfl) (ep_int (K := K)) o_add)) (fun _ => rfl) fun _ _ => rfl) fun ahead174 s => (.cons (.rfl _) (.cons (.rfl _) (.cons (.rfl _) (.cons (.rfl _) (.cons (.no _) .nil))))))))) fun t175 => (rt_seqC (rc_for (β := Empty) (Γb := fun b _ => nomatch b) (Γr := (fun (s : Unit) => [.no, .no, .no, .no, .no])) (ΓL := fun (t176 : Int) (s : Unit) => [.im (pv K view), .im (pv K u_), .im (pv K t175), .im (pv K t176), .no]) (Γx := fun (a177 : Int) (t176 : Int) (s : Unit) => [.im (pv K view), .im (pv K u_), .im (pv K t175), .im (pv K t176), .im (pv K a177)]) (im_listM (em_ownL (eo_back (em_pure fun _ => (ep_var rfl))))) (fun s => (.cons (.rfl _) (.cons (.rfl _) (.cons (.rfl _) (.cons (.rfl _) (.cons (.rfl _) .nil)))))) (fun a177 t176 s => (gt_name (Γ := [.im (pv K view), .im (pv K u_), .im (pv K t175), .im (pv K t176), .no]) (i := 4) (Γ' := [.im (pv K view), .im (pv K u_), .im (pv K t175), .im (pv K t176), .im (pv K a177)]) rfl rfl)) fun a177 t176 => (rc_ifr (tm_pure fun _ => (tp_test (ep_op (ep_var rfl) (ep_var rfl) o_ne))) (rx_brk fun s => (.cons (.rfl _) (.cons (.rfl _) (.cons (.rfl _) (.cons (.rfl _) (.cons (.no _) .nil)))))) (rc_of_p (rp_post (f := fun behind178 => behind178) (rp_asg (Γ := fun (s : Unit) => [.im (pv K view), .im (pv K u_), .im (pv K t175), .im (pv K t176), .im (pv K a177)]) (i := 3) (Γ' := fun behind178 (s : Unit) => [.im (pv K view), .im (pv K u_), .im (pv K t175), .im (pv K behind178), .im (pv K a177)]) (em_pure fun _ => (ep_op (ep_var rfl) (ep_int (K := K)) o_add)) (fun _ => rfl) fun _ _ => rfl) fun behind178 s => (.cons (.rfl _) (.cons (.rfl _) (.cons (.rfl _) (.cons (.rfl _) (.cons (.no _) .nil))))))))) fun t179 => (rt_ret (em_pure fun _ => (ep_op (ep_op (ep_var rfl) (ep_var rfl) o_add) (ep_op (ep_cb (ap_cons (ep_var rfl) ap_nil) c_lenL) (ep_int (K := K)) o_sub) o_ge)) fun s => (.cons (.no _) (.cons (.no _) (.cons (.no _) (.cons (.no _) (.cons (.rfl _) .nil)))))))))))) h⟩
theorem ok__law_form {f : Addr} {fd : FuncData} (F : FnP K "_law_form" (top 28) f fd) (hg : mg "_law_form" = some (.ref f)) (b_int : mg "int" = none) (b_len : mg "len" = none) : Cal P w K mg base 1 "_law_form" ["view", "u"] (sp__law_form K) := ⟨f, fd, fo__law_form F b_int b_len, hg, F.kp, F.bindsN fun _ _ _ _ _ _ us hl => match us, hl with | [_, _], _ => rfl⟩
def m__law_reading (view : Ref) : Mn (Sto K) (L2h Int (List (Int × Int))) :=
  (mb (mb (mldT Int view) fun xs180 => mu (mb (mb (mp xs180) fun xs => cmP xs (fun (a181 : Int) => (mb (mo (atI xs180 (0 : Int))) fun y185 => mp (!decide (a181 = y185)))) fun a181 => (mp a181)) fun x_186 => mp (decide (x_186 = ([] : (List Int)))))) fun b => mi b
    (mb (mb (mb (mp ((0 : Int) : Int)) fun i188 => mb (mldL view) fun xs => mo ((atI xs i188).bind (PyT.dec (α := Int)))) fun x_191 => mb (mb (mp (([] : (List (Int × Int))) : (List (Int × Int)))) fun x_189 => mb (mp ()) fun z190 => mp (x_189, z190)) fun z192 => mp (x_191, z192)) fun z193 => mp (L2h.mk z193.1 z193.2.1))
    (mb (mb (mb (mldT Int view) fun xs194 => mu (mp (((xs194.length : Nat) : Int) : Int))) fun x_195 => mp (decide ((2 : Int) < x_195))) fun b => mi b
    (mb (mb (mb (mc (b62 ((3 : Int) : Int)) (rng 0 ((3 : Int) : Int).toNat)) fun xs => cmP xs (fun (a197 : Int) => (mb (mldT Int view) fun xs198 => mu (mu (m__law_form xs198 a197)))) fun a197 => (mp (((a197 + (1 : Int)) % (3 : Int)) : Int))) fun x_199 => mo (atI x_199 (0 : Int))) fun value201 =>
  (mb (mb (mp value201) fun x_212 => mb (mb (mb (mb (mb (mb (mldT Int view) fun xs202 => mu (mp (((xs202.length : Nat) : Int) : Int))) fun x_203 => mb (mp ()) fun z204 => mp (x_203, z204)) fun z205 => mc (b62 z205.1) (rng 0 z205.1.toNat)) fun xs => cmP xs (fun (a206 : Int) => (mb (mb (mp a206) fun i207 => mb (mldL view) fun xs => mo ((atI xs i207).bind (PyT.dec (α := Int)))) fun x_208 => mp (!decide (x_208 = value201)))) fun a206 => (mp ((a206, value201) : (Int × Int)))) fun x_210 => mb (mp ()) fun z211 => mp (x_210, z211)) fun z213 => mp (x_212, z213)) fun z214 => mp (L2h.mk z214.1 z214.2.1)))
    (mb (mb (mp view) fun r216 => mb (mldT Int r216) fun w_215 => mc (decide (w_215.length = 2)) w_215) fun w_215 =>
  (mb (mp (decide ((2 : Int) < (w_215.getD 0 0)))) fun b => mi b
    (mb (mb (mp ((w_215.getD 1 0) : Int)) fun x_219 => mb (mb (mp (([((0 : Int), (w_215.getD 1 0))] : (List (Int × Int))) : (List (Int × Int)))) fun x_217 => mb (mp ()) fun z218 => mp (x_217, z218)) fun z220 => mp (x_219, z220)) fun z221 => mp (L2h.mk z221.1 z221.2.1))
    (mb (mp (decide ((2 : Int) < (w_215.getD 1 0)) || decide ((w_215.getD 0 0) = (((w_215.getD 1 0) + (1 : Int)) % (3 : Int))))) fun b => mi b
    (mb (mb (mp ((w_215.getD 0 0) : Int)) fun x_224 => mb (mb (mp (([((1 : Int), (w_215.getD 0 0))] : (List (Int × Int))) : (List (Int × Int)))) fun x_222 => mb (mp ()) fun z223 => mp (x_222, z223)) fun z225 => mp (x_224, z225)) fun z226 => mp (L2h.mk z226.1 z226.2.1))
    (mb (mb (mp ((((3 : Int) - (w_215.getD 0 0)) - (w_215.getD 1 0)) : Int)) fun x_229 => mb (mb (mp (([] : (List (Int × Int))) : (List (Int × Int)))) fun x_227 => mb (mp ()) fun z228 => mp (x_227, z228)) fun z230 => mp (x_229, z230)) fun z231 => mp (L2h.mk z231.1 z231.2.1)))))))
abbrev sp__law_reading (K : PySem.W.Frag) : Sp := Prom (rIm K) (S := (Sto K)) (fun i : Ref => [.im (pv K i)]) fun i => m__law_reading i
theorem len__law_reading : ∀ vs H Q E, sp__law_reading K vs H Q E → vs.length = 1 := prom_len (S := (Sto K)) (Ret := (rIm K)) (As := fun i : Ref => [.im (pv K i)]) (m := fun i => m__law_reading i) fun _ => rfl
theorem sc__law_reading : FnScope ["view", "value", "one", "other", "content", "u", "index"] ["view"] (defScope (top 29)) := ⟨rfl, rfl, rfl, by decide +kernel, rfl, by decide +kernel, by decide +kernel⟩
theorem fo__law_reading {f : Addr} {fd : FuncData} (F : FnP K "_law_reading" (top 29) f fd) (b_int : mg "int" = none) (b_len : mg "len" = none) (b_range : mg "range" = none) (C__law_form : Cal P w K mg base 1 "_law_form" ["view", "u"] (sp__law_form K)) : FnOk P w K mg base CX0 2 f fd ["view"] (sp__law_reading K) := by
  obtain ⟨f__law_form, fd__law_form, G__law_form, g__law_form, kp__law_form, bi__law_form⟩ := C__law_form.ex
  refine F.ok sc__law_reading (len__law_reading (K := K)) (fun cdv A outer s H vs Q E hr h => ?_)
  have hl : vs.length = 1 := len__law_reading (K := K) vs H Q E h
  match vs, hl, h with
  | [v0], _, h => exact ⟨_, PSs.nox ((pss_cons (ps_if (pt_cmpR (op_eqD (hu64 hr)) (pe_lc (own := [("content", 4)]) rfl sc__law_reading.nd (pi_list (L2.pv 0)) (blkOk_by (own := [("content", 4)]) (N := ["view", "value", "one", "other", "content", "u", "index"]) (sc := defScope (top 29)) (by decide +kernel)) (fun _ _ _ _ _ => (pg_name (i := 4) sc__law_reading.nd rfl (Or.inl rfl))) (fun _ _ _ _ _ => (pts_one (pt_cmpR op_ne (L2.pv 4) (pe_ix ix_list (L2.pv 0) pe_int (fun _ _ => rfl)) (nomark _)))) (fun _ _ _ _ _ => (L2.pv 4))) (pe_lst pa_nil) (nomark _)) (pss_one (ps_ret (pe_lst (pa_cons (pe_ix ix_list (L2.pv 0) pe_int (fun _ _ => rfl)) (pa_cons (pe_lst pa_nil) pa_nil))))) pss_nil) (pss_cons (ps_if (pt_cmpR op_gt (pe_callB call_len_seq rfl b_len bt_len (pa_cons (L2.pv 0) pa_nil)) pe_int (nomark _)) (pss_cons (ps_set (i := 1) sc__law_reading.nd rfl (Or.inr rfl) (pe_ix ix_list (pe_lc (own := [("u", 5)]) rfl sc__law_reading.nd (pi_range1 rfl b_range (pa_cons pe_int pa_nil)) (blkOk_by (own := [("u", 5)]) (N := ["view", "value", "one", "other", "content", "u", "index"]) (sc := defScope (top 29)) (by decide +kernel)) (fun _ _ _ _ _ => (pg_name (i := 5) sc__law_reading.nd rfl (Or.inl rfl))) (fun _ _ _ _ _ => (pts_one (pt_val (pe_call G__law_form (hr.mono (Nat.le_of_ble_eq_true rfl)) rfl g__law_form kp__law_form bi__law_form .nil pass0 (pa_cons (L2.pv 0) (pa_cons (L2.pv 5) pa_nil)))))) (fun _ _ _ _ _ => (pe_op op_mod (pe_callTy call_int1 rfl b_int bt_int (pa_cons (pe_op op_add (L2.pv 5) pe_int) pa_nil)) pe_int))) pe_int (fun _ _ => rfl))) (pss_one (ps_ret (pe_lst (pa_cons (L2.pv 1) (pa_cons (pe_lc (own := [("index", 6)]) rfl sc__law_reading.nd (pi_range1 rfl b_range (pa_cons (pe_callB call_len_seq rfl b_len bt_len (pa_cons (L2.pv 0) pa_nil)) pa_nil)) (blkOk_by (own := [("index", 6)]) (N := ["view", "value", "one", "other", "content", "u", "index"]) (sc := defScope (top 29)) (by decide +kernel)) (fun _ _ _ _ _ => (pg_name (i := 6) sc__law_reading.nd rfl (Or.inl rfl))) (fun _ _ _ _ _ => (pts_one (pt_cmpR op_ne (pe_ix ix_list (L2.pv 0) (L2.pv 6) (fun _ _ => rfl)) (L2.pv 1) (nomark _)))) (fun _ _ _ _ _ => (pe_tup (pa_cons (L2.pv 6) (pa_cons (L2.pv 1) pa_nil))))) pa_nil)))))) pss_nil) (pss_cons (ps_asg (L2.pv 0) (pg_lst (n := 2) rfl (pgs_cons (pg_name (i := 2) sc__law_reading.nd rfl (Or.inl rfl)) (pgs_cons (pg_name (i := 3) sc__law_reading.nd rfl (Or.inl rfl)) pgs_nil)))) (pss_cons (ps_if (pt_cmpR op_gt (L2.pv 2) pe_int (nomark _)) (pss_one (ps_ret (pe_lst (pa_cons (L2.pv 3) (pa_cons (pe_lst (pa_cons (pe_tup (pa_cons pe_int (pa_cons (L2.pv 3) pa_nil))) pa_nil)) pa_nil))))) pss_nil) (pss_cons (ps_if (PW.pt (pw_or (pt_cmpR op_gt (L2.pv 3) pe_int (nomark _)) (pw_or1 (pt_cmpR op_eq (L2.pv 2) (pe_op op_mod (pe_callTy call_int1 rfl b_int bt_int (pa_cons (pe_op op_add (L2.pv 3) pe_int) pa_nil)) pe_int) (nomark _))))) (pss_one (ps_ret (pe_lst (pa_cons (L2.pv 2) (pa_cons (pe_lst (pa_cons (pe_tup (pa_cons pe_int (pa_cons (L2.pv 2) pa_nil))) pa_nil)) pa_nil))))) pss_nil) (pss_one (ps_ret (pe_lst (pa_cons (pe_op op_sub (pe_op op_sub pe_int (L2.pv 2)) (L2.pv 3)) (pa_cons (pe_lst pa_nil) pa_nil))))))))))), prom_ok (n := 1) (S := (Sto K)) (Ret := (rIm K)) (As := fun i : Ref => [.im (pv K i)]) (m := fun i => m__law_reading i) 6 (fun _ => rfl) rfl (fun view => (show RN (rIm K) _ (fun (s : (Sto K)) => [.im (pv K view), .no, .no, .no, .no, .no, .no]) (m__law_reading view) (fun (s : (Sto K)) => [.no, .no, .no, .no, .no, .no, .no]) from (rn_of (rt_ifr (tm_test (em_borR (r := view) (Γ0 := [.im (pv K view), .no, .no, .no, .no, .no, .no]) (j := 0) (Γ1 := fun xs180 => [.im (pv K xs180), .no, .no, .no, .no, .no, .no]) (fun _ => (.cons (.rfl _) (.cons (.rfl _) (.cons (.rfl _) (.cons (.rfl _) (.cons (.rfl _) (.cons (.rfl _) (.cons (.rfl _) .nil)))))))) rfl rfl (fun _ => rfl) (fun xs180 => (em_opr (g := fun (u : (List Int)) (v : (List Int)) => decide (u = v)) (em_lc (vs := [4]) (Γ := (fun (s : Unit) => [.im (pv K xs180), .no, .no, .no, .no, .no, .no])) (Γx := fun (a181 : Int) (s : Unit) => [.im (pv K xs180), .no, .no, .no, .im (pv K a181), .no, .no]) (js := [4]) (im_list fun _ => (ep_var rfl)) (fun _ => rfl) (fun a181 s => (gt_name (Γ := [.im (pv K xs180), .no, .no, .no, .no, .no, .no]) (i := 4) (Γ' := [.im (pv K xs180), .no, .no, .no, .im (pv K a181), .no, .no]) rfl rfl)) rfl (fun a181 => (tm_test (em_opl (g := fun (u : Int) (v : Int) => (!decide (u = v))) (fun _ => (ep_var rfl)) (em_ixLp (fun _ => (ep_var rfl)) fun _ => (ep_int (K := K))) fun _ => o_ne))) (fun a181 => (em_pure fun _ => (ep_var rfl))) fun a181 s => (.cons (.rfl _) (.cons (.rfl _) (.cons (.rfl _) (.cons (.rfl _) (.cons (.no _) (.cons (.rfl _) (.cons (.rfl _) .nil)))))))) (fun _ => (ep_lst (xs := ([] : (List Int))) (hl := Nat.le_of_ble_eq_true rfl) ap_nil)) fun _ => (o_eqDt (Nat.le_of_ble_eq_true rfl)))) fun _ => rfl)) (rt_ret (em_l2h (f := fun (z193 : Int × (List (Int × Int)) × Unit) => L2h.mk z193.1 z193.2.1) (am_cons (em_ixR (r := view) (fun _ => (ep_var rfl)) (em_pure fun _ => (ep_int (K := K)))) (am_cons (em_pure fun _ => (ep_lst (xs := ([] : (List (Int × Int)))) (hl := Nat.le_of_ble_eq_true rfl) ap_nil)) am_nil))) fun s => (.cons (.no _) (.cons (.rfl _) (.cons (.rfl _) (.cons (.rfl _) (.cons (.rfl _) (.cons (.rfl _) (.cons (.rfl _) .nil)))))))) (rt_ifr (tm_test (em_opr (g := fun (u : Int) (v : Int) => decide (v < u)) (em_borR (r := view) (Γ0 := [.im (pv K view), .no, .no, .no, .no, .no, .no]) (j := 0) (Γ1 := fun xs194 => [.im (pv K xs194), .no, .no, .no, .no, .no, .no]) (fun _ => (.cons (.rfl _) (.cons (.rfl _) (.cons (.rfl _) (.cons (.rfl _) (.cons (.rfl _) (.cons (.rfl _) (.cons (.rfl _) .nil)))))))) rfl rfl (fun _ => rfl) (fun xs194 => (em_pure fun _ => (ep_cb (ap_cons (ep_var rfl) ap_nil) c_lenL))) fun _ => rfl) (fun _ => (ep_int (K := K))) fun _ => o_gt)) (rt_seq (rp_asg (Γ := fun (s : (Sto K)) => [.im (pv K view), .no, .no, .no, .no, .no, .no]) (i := 1) (Γ' := fun value201 (s : (Sto K)) => [.im (pv K view), .im (pv K value201), .no, .no, .no, .no, .no]) (em_ixLr (em_lc (vs := [5]) (Γ := (fun (s : (Sto K)) => [.im (pv K view), .no, .no, .no, .no, .no, .no])) (Γx := fun (a197 : Int) (s : (Sto K)) => [.im (pv K view), .no, .no, .no, .no, .im (pv K a197), .no]) (js := [5]) (im_rng1 fun _ => (ap_cons (ep_int (K := K)) ap_nil)) (fun _ => rfl) (fun a197 s => (gt_name (Γ := [.im (pv K view), .no, .no, .no, .no, .no, .no]) (i := 5) (Γ' := [.im (pv K view), .no, .no, .no, .no, .im (pv K a197), .no]) rfl rfl)) rfl (fun a197 => (tm_B (em_borR (r := view) (Γ0 := [.im (pv K view), .no, .no, .no, .no, .im (pv K a197), .no]) (j := 0) (Γ1 := fun xs198 => [.im (pv K xs198), .no, .no, .no, .no, .im (pv K a197), .no]) (fun _ => (.cons (.rfl _) (.cons (.rfl _) (.cons (.rfl _) (.cons (.rfl _) (.cons (.rfl _) (.cons (.rfl _) (.cons (.rfl _) .nil)))))))) rfl rfl (fun _ => rfl) (fun xs198 => (em_of_eo (eo_call0 (i := (xs198, a197)) (ps := [pv K xs198, pv K a197]) (fun _ => (ap_cons (ep_var rfl) (ap_cons (ep_var rfl) ap_nil))) rfl))) fun _ => rfl))) (fun a197 => (em_pure fun _ => (ep_op (ep_cb (ap_cons (ep_op (ep_var rfl) (ep_int (K := K)) o_add) ap_nil) c_int) (ep_int (K := K)) (o_mod rfl)))) fun a197 s => (.cons (.rfl _) (.cons (.rfl _) (.cons (.rfl _) (.cons (.rfl _) (.cons (.rfl _) (.cons (.no _) (.cons (.rfl _) .nil)))))))) fun _ => (ep_int (K := K))) (fun _ => rfl) fun _ _ => rfl) fun value201 => (rt_ret (em_l2h (f := fun (z214 : Int × (List (Int × Int)) × Unit) => L2h.mk z214.1 z214.2.1) (am_cons (em_pure fun _ => (ep_var rfl)) (am_cons (em_lc (vs := [6]) (Γ := (fun (s : (Sto K)) => [.im (pv K view), .im (pv K value201), .no, .no, .no, .no, .no])) (Γx := fun (a206 : Int) (s : (Sto K)) => [.im (pv K view), .im (pv K value201), .no, .no, .no, .no, .im (pv K a206)]) (js := [6]) (im_rng1M (f := fun (z205 : Int × Unit) => z205.1) (am_cons (em_borR (r := view) (Γ0 := [.im (pv K view), .im (pv K value201), .no, .no, .no, .no, .no]) (j := 0) (Γ1 := fun xs202 => [.im (pv K xs202), .im (pv K value201), .no, .no, .no, .no, .no]) (fun _ => (.cons (.rfl _) (.cons (.rfl _) (.cons (.rfl _) (.cons (.rfl _) (.cons (.rfl _) (.cons (.rfl _) (.cons (.rfl _) .nil)))))))) rfl rfl (fun _ => rfl) (fun xs202 => (em_pure fun _ => (ep_cb (ap_cons (ep_var rfl) ap_nil) c_lenL))) fun _ => rfl) am_nil)) (fun _ => rfl) (fun a206 s => (gt_name (Γ := [.im (pv K view), .im (pv K value201), .no, .no, .no, .no, .no]) (i := 6) (Γ' := [.im (pv K view), .im (pv K value201), .no, .no, .no, .no, .im (pv K a206)]) rfl rfl)) rfl (fun a206 => (tm_test (em_opr (g := fun (u : Int) (v : Int) => (!decide (u = v))) (em_ixR (r := view) (fun _ => (ep_var rfl)) (em_pure fun _ => (ep_var rfl))) (fun _ => (ep_var rfl)) fun _ => o_ne))) (fun a206 => (em_pure fun _ => (ep_tup (ap_cons (ep_var rfl) (ap_cons (ep_var rfl) ap_nil)) tup2))) fun a206 s => (.cons (.rfl _) (.cons (.rfl _) (.cons (.rfl _) (.cons (.rfl _) (.cons (.rfl _) (.cons (.rfl _) (.cons (.no _) .nil)))))))) am_nil))) fun s => (.cons (.no _) (.cons (.no _) (.cons (.rfl _) (.cons (.rfl _) (.cons (.rfl _) (.cons (.rfl _) (.cons (.rfl _) .nil))))))))) (rt_seq (rp_unpR (Γ := fun (s : (Sto K)) => [.im (pv K view), .no, .no, .no, .no, .no, .no]) (Γ' := fun w_215 (s : (Sto K)) => [.im (pv K view), .no, .im (pv K ((w_215.getD 0 0) : Int)), .im (pv K ((w_215.getD 1 0) : Int)), .no, .no, .no]) (n := 2) [2, 3] (em_pure fun _ => (ep_var rfl)) (fun _ => asg_ok rfl) fun _ _ => rfl) fun w_215 => (rt_ifr (tm_pure fun _ => (tp_test (ep_op (ep_var rfl) (ep_int (K := K)) o_gt))) (rt_ret (em_l2h (f := fun (z221 : Int × (List (Int × Int)) × Unit) => L2h.mk z221.1 z221.2.1) (am_cons (em_pure fun _ => (ep_var rfl)) (am_cons (em_pure fun _ => (ep_lst (xs := ([((0 : Int), (w_215.getD 1 0))] : (List (Int × Int)))) (hl := Nat.le_of_ble_eq_true rfl) (ap_cons (ep_tup (ap_cons (ep_int (K := K)) (ap_cons (ep_var rfl) ap_nil)) tup2) ap_nil))) am_nil))) fun s => (.cons (.no _) (.cons (.rfl _) (.cons (.no _) (.cons (.no _) (.cons (.rfl _) (.cons (.rfl _) (.cons (.rfl _) .nil)))))))) (rt_ifr (tm_pure fun _ => (tp_or (tp_test (ep_op (ep_var rfl) (ep_int (K := K)) o_gt)) fun _ => (tp_test (ep_op (ep_var rfl) (ep_op (ep_cb (ap_cons (ep_op (ep_var rfl) (ep_int (K := K)) o_add) ap_nil) c_int) (ep_int (K := K)) (o_mod rfl)) o_eq)))) (rt_ret (em_l2h (f := fun (z226 : Int × (List (Int × Int)) × Unit) => L2h.mk z226.1 z226.2.1) (am_cons (em_pure fun _ => (ep_var rfl)) (am_cons (em_pure fun _ => (ep_lst (xs := ([((1 : Int), (w_215.getD 0 0))] : (List (Int × Int)))) (hl := Nat.le_of_ble_eq_true rfl) (ap_cons (ep_tup (ap_cons (ep_int (K := K)) (ap_cons (ep_var rfl) ap_nil)) tup2) ap_nil))) am_nil))) fun s => (.cons (.no _) (.cons (.rfl _) (.cons (.no _) (.cons (.no _) (.cons (.rfl _) (.cons (.rfl _) (.cons (.rfl _) .nil)))))))) (rt_ret (em_l2h (f := fun (z231 : Int × (List (Int × Int)) × Unit) => L2h.mk z231.1 z231.2.1) (am_cons (em_pure fun _ => (ep_op (ep_op (ep_int (K := K)) (ep_var rfl) o_sub) (ep_var rfl) o_sub)) (am_cons (em_pure fun _ => (ep_lst (xs := ([] : (List (Int × Int)))) (hl := Nat.le_of_ble_eq_true rfl) ap_nil)) am_nil))) fun s => (.cons (.no _) (.cons (.rfl _) (.cons (.no _) (.cons (.no _) (.cons (.rfl _) (.cons (.rfl _) (.cons (.rfl _) .nil)))))))))))))))) h⟩
theorem ok__law_reading {f : Addr} {fd : FuncData} (F : FnP K "_law_reading" (top 29) f fd) (hg : mg "_law_reading" = some (.ref f)) (b_int : mg "int" = none) (b_len : mg "len" = none) (b_range : mg "range" = none) (C__law_form : Cal P w K mg base 1 "_law_form" ["view", "u"] (sp__law_form K)) : Cal P w K mg base 2 "_law_reading" ["view"] (sp__law_reading K) := ⟨f, fd, fo__law_reading F b_int b_len b_range C__law_form, hg, F.kp, F.bindsN fun _ _ _ _ _ _ us hl => match us, hl with | [_], _ => rfl⟩
def m__law_new_row (box : Ref) (great : Bool) : Mn (Sto K) Ref :=
  (mb (mb (mb (mb (mb (mp box) fun x_234 => mb (mb (mp ((cond great (63 : Int) (6 : Int)) : Int)) fun x_232 => mb (mp ()) fun z233 => mp (x_232, z233)) fun z235 => mp (x_234, z235)) fun z236 => (m__law_take z236.1 z236.2.1)) fun y238 => mp ((2 : Int) + y238)) fun x_247 => mb (mb (mb (mb (mp box) fun x_241 => mb (mb (mp ((3 : Int) : Int)) fun x_239 => mb (mp ()) fun z240 => mp (x_239, z240)) fun z242 => mp (x_241, z242)) fun z243 => (m__law_take z243.1 z243.2.1)) fun x_245 => mb (mp ()) fun z246 => mp (x_245, z246)) fun z248 => mp (x_247, z248)) fun z244 =>
  (mb (mnew (.dic [])) fun r => mb (mb (mb (mc (repOk (([z244.2.1] : (List Int)) : (List Int)).length z244.1) (repL (([z244.2.1] : (List Int)) : (List Int)) z244.1)) fun (xs : (List Int)) => mnew (.lst (xs.map PyT.enc))) fun x_251 => mb (mb (mp z244.2.1) fun x_249 => mb (mp []) fun z250 => mp ((.inr "value", PyT.enc x_249) :: z250)) fun z252 => mp ((.inr "view", PyT.enc x_251) :: z252)) fun zs => mb (mldD r) fun z => mb (mc z.isEmpty ()) fun _ => mb (mput r (.dic zs)) fun _ => mp r))
abbrev sp__law_new_row (K : PySem.W.Frag) : Sp := Prom (rIm K) (S := (Sto K)) (fun i : Ref × Bool => [.im (pv K i.1), .im (pv K i.2)]) fun i => m__law_new_row i.1 i.2
theorem len__law_new_row : ∀ vs H Q E, sp__law_new_row K vs H Q E → vs.length = 2 := prom_len (S := (Sto K)) (Ret := (rIm K)) (As := fun i : Ref × Bool => [.im (pv K i.1), .im (pv K i.2)]) (m := fun i => m__law_new_row i.1 i.2) fun _ => rfl
theorem sc__law_new_row : FnScope ["box", "great", "many", "value"] ["box", "great"] (defScope (top 30)) := ⟨rfl, rfl, rfl, by decide +kernel, rfl, by decide +kernel, by decide +kernel⟩
theorem fo__law_new_row {f : Addr} {fd : FuncData} (F : FnP K "_law_new_row" (top 30) f fd) (C__law_take : Cal P w K mg base 1 "_law_take" ["box", "many"] (sp__law_take K)) : FnOk P w K mg base CX0 2 f fd ["box", "great"] (sp__law_new_row K) := by
  obtain ⟨f__law_take, fd__law_take, G__law_take, g__law_take, kp__law_take, bi__law_take⟩ := C__law_take.ex
  refine F.ok sc__law_new_row (len__law_new_row (K := K)) (fun cdv A outer s H vs Q E hr h => ?_)
  have hl : vs.length = 2 := len__law_new_row (K := K) vs H Q E h
  match vs, hl, h with
  | [v0, v1], _, h => exact ⟨_, PSs.nox ((pss_cons (ps_par (i := 2) (j := 3) rfl sc__law_new_row.nd rfl rfl (by decide) rfl rfl (pa_cons (pe_op op_add pe_int (pe_call G__law_take (hr.mono (Nat.le_of_ble_eq_true rfl)) rfl g__law_take kp__law_take bi__law_take .nil pass0 (pa_cons (L2.pv 0) (pa_cons (pe_ifExp (pt_val (L2.pv 1)) pe_int pe_int) pa_nil)))) (pa_cons (pe_call G__law_take (hr.mono (Nat.le_of_ble_eq_true rfl)) rfl g__law_take kp__law_take bi__law_take .nil pass0 (pa_cons (L2.pv 0) (pa_cons pe_int pa_nil))) pa_nil)) rfl) (pss_one (ps_ret (pe_disp (pps_cons pe_str (pe_op op_rep (pe_lst (pa_cons (L2.pv 3) pa_nil)) (L2.pv 2)) (pps_cons pe_str (L2.pv 3) pps_nil)) rfl rfl (by simp) (by decide)))))), prom_ok (n := 2) (S := (Sto K)) (Ret := (rIm K)) (As := fun i : Ref × Bool => [.im (pv K i.1), .im (pv K i.2)]) (m := fun i => m__law_new_row i.1 i.2) 2 (fun _ => rfl) rfl (fun (box, great) => (show RN (rIm K) _ (fun (s : (Sto K)) => [.im (pv K box), .im (pv K great), .no, .no]) (m__law_new_row box great) (fun (s : (Sto K)) => [.no, .no, .no, .no]) from (rn_of (rt_seq (rp_asg2 (Γ' := fun (z244 : Int × Int × Unit) (s : (Sto K)) => [.im (pv K box), .im (pv K great), .im (pv K z244.1), .im (pv K z244.2.1)]) (ao_m (em_opl (g := fun (u : Int) (v : Int) => (u + v)) (fun _ => (ep_int (K := K))) (em_of_eo (eo_callS (f := fun (z236 : Ref × Int × Unit) => (z236.1, z236.2.1)) (am_cons (em_pure fun _ => (ep_var rfl)) (am_cons (em_pure fun _ => (ep_if (tp_B (ep_var rfl)) (fun _ => (ep_int (K := K))) fun _ => (ep_int (K := K)))) am_nil)) (fun _ _ => rfl) fun _ _ => rfl)) fun _ => o_add) (ao_m (em_of_eo (eo_callS (f := fun (z243 : Ref × Int × Unit) => (z243.1, z243.2.1)) (am_cons (em_pure fun _ => (ep_var rfl)) (am_cons (em_pure fun _ => (ep_int (K := K))) am_nil)) (fun _ _ => rfl) fun _ _ => rfl)) ao_nil)) (fun _ => asg_ok rfl) (fun _ => rfl) (fun _ => rfl) fun _ _ => rfl) fun z244 => (rt_ret (em_disp (pm_cons (k := .inr "view") (em_new (eo_rep (fun _ => (ep_lst (xs := ([z244.2.1] : (List Int))) (hl := Nat.le_of_ble_eq_true rfl) (ap_cons (ep_var rfl) ap_nil))) fun _ => (ep_var rfl)) fun _ _ => rfl) (pm_cons (k := .inr "value") (em_pure fun _ => (ep_var rfl)) pm_nil)) (by decide +kernel) (by decide) fun _ _ => rfl) fun s => (.cons (.no _) (.cons (.no _) (.cons (.no _) (.cons (.no _) .nil))))))))) h⟩
theorem ok__law_new_row {f : Addr} {fd : FuncData} (F : FnP K "_law_new_row" (top 30) f fd) (hg : mg "_law_new_row" = some (.ref f)) (C__law_take : Cal P w K mg base 1 "_law_take" ["box", "many"] (sp__law_take K)) : Cal P w K mg base 2 "_law_new_row" ["box", "great"] (sp__law_new_row K) := ⟨f, fd, fo__law_new_row F C__law_take, hg, F.kp, F.bindsN fun _ _ _ _ _ _ us hl => match us, hl with | [_, _], _ => rfl⟩
def m__law_passed (view : Ref) (low : Int) : Mn (Sto K) (Sv Int) :=
  (mb (mp (decide (low = (0 : Int)))) fun b255 => mi b255 (mb (mb (mldT Int view) fun xs253 => mu (mb (mp xs253) fun xs => mp (Tc.mk xs))) fun x => mp (Sv.mk true x.l)) (mb (mb (mldT Int view) fun xs254 => mu (mp xs254)) fun x => mp (Sv.mk false x)))
abbrev sp__law_passed (K : PySem.W.Frag) : Sp := Prom (rIm K) (S := (Sto K)) (fun i : Ref × Int => [.im (pv K i.1), .im (pv K i.2)]) fun i => m__law_passed i.1 i.2
theorem len__law_passed : ∀ vs H Q E, sp__law_passed K vs H Q E → vs.length = 2 := prom_len (S := (Sto K)) (Ret := (rIm K)) (As := fun i : Ref × Int => [.im (pv K i.1), .im (pv K i.2)]) (m := fun i => m__law_passed i.1 i.2) fun _ => rfl
theorem sc__law_passed : FnScope ["view", "low"] ["view", "low"] (defScope (top 31)) := ⟨rfl, rfl, rfl, by decide +kernel, rfl, by decide +kernel, by decide +kernel⟩
theorem fo__law_passed {f : Addr} {fd : FuncData} (F : FnP K "_law_passed" (top 31) f fd) (b_list : mg "list" = none) (b_tuple : mg "tuple" = none) : FnOk P w K mg base CX0 1 f fd ["view", "low"] (sp__law_passed K) := by
  refine F.ok sc__law_passed (len__law_passed (K := K)) (fun cdv A outer s H vs Q E hr h => ?_)
  have hl : vs.length = 2 := len__law_passed (K := K) vs H Q E h
  match vs, hl, h with
  | [v0, v1], _, h => exact ⟨_, PSs.nox ((pss_one (ps_ret (pe_ifExp (pt_cmpR op_eq (L2.pv 1) pe_int (nomark _)) (pe_callTy TC.call_tupF rfl b_tuple bt_tuple (pa_cons (L2.pv 0) pa_nil)) (pe_callTy call_list_of rfl b_list bt_list (pa_cons (L2.pv 0) pa_nil)))))), prom_ok (n := 2) (S := (Sto K)) (Ret := (rIm K)) (As := fun i : Ref × Int => [.im (pv K i.1), .im (pv K i.2)]) (m := fun i => m__law_passed i.1 i.2) 0 (fun _ => rfl) rfl (fun (view, low) => (show RN (rIm K) _ (fun (s : (Sto K)) => [.im (pv K view), .im (pv K low)]) (m__law_passed view low) (fun (s : (Sto K)) => [.no, .no]) from (rn_of (rt_ret (em_if (tm_pure fun _ => (tp_test (ep_op (ep_var rfl) (ep_int (K := K)) o_eq))) (em_svT (em_borRT (r := view) (Γ0 := [.im (pv K view), .im (pv K low)]) (j := 0) (Γ1 := fun xs253 => [.im (pv K xs253), .im (pv K low)]) (fun _ => (.im (.im .nil))) (fun _ => (.cons (.rfl _) (.cons (.rfl _) .nil))) rfl rfl (fun _ => rfl) (fun xs253 => (em_tupF (em_pure fun _ => (ep_var rfl)))) fun _ => rfl)) (em_svL (em_ownL (eo_borR (r := view) (Γ0 := [.im (pv K view), .im (pv K low)]) (j := 0) (Γ1 := fun xs254 => [.im (pv K xs254), .im (pv K low)]) (fun _ => (.im (.im .nil))) (fun _ => (.cons (.rfl _) (.cons (.rfl _) .nil))) rfl rfl (fun _ => rfl) (fun xs254 => (eo_listL fun _ => ap_cons (ep_var rfl) ap_nil)) fun _ => rfl)))) fun s => (.cons (.no _) (.cons (.no _) .nil)))))) h⟩
theorem ok__law_passed {f : Addr} {fd : FuncData} (F : FnP K "_law_passed" (top 31) f fd) (hg : mg "_law_passed" = some (.ref f)) (b_list : mg "list" = none) (b_tuple : mg "tuple" = none) : Cal P w K mg base 1 "_law_passed" ["view", "low"] (sp__law_passed K) := ⟨f, fd, fo__law_passed F b_list b_tuple, hg, F.kp, F.bindsN fun _ _ _ _ _ _ us hl => match us, hl with | [_, _], _ => rfl⟩
def m__law_told_right (box : Ref) (world : Ref) (u_ : Int) (pair : (List Int)) : Mn (Sto K) Bool :=
  (mb (mb (mb (mp world) fun r256 => mb (mp ("view" : Str)) fun i257 => mb (mldD r256) fun xs => mo ((getP xs (Ky.key i257)).bind (PyT.dec (α := Ref)))) fun x_266 => mb (mb (mb (mb (mp box) fun x_260 => mb (mb (mp ((2 : Int) : Int)) fun x_258 => mb (mp ()) fun z259 => mp (x_258, z259)) fun z261 => mp (x_260, z261)) fun z262 => (m__law_take z262.1 z262.2.1)) fun x_264 => mb (mp ()) fun z265 => mp (x_264, z265)) fun z267 => mp (x_266, z267)) fun z263 =>
  (mb (mb (mb (mp z263.1) fun x_268 => mb (mp ()) fun z269 => mp (x_268, z269)) fun z270 => (m__law_reading z270.1)) fun w_271 =>
  (mb (mb (mp (!decide (w_271.a ∈ pair))) fun b274 => mi b274 (mp true) (mb (mb (mldT Int z263.1) fun xs272 => mu (mu (m__law_form xs272 u_))) fun b273 => mp (!b273))) fun b => mi b
    (mp false)
    (mb (mb (mb (mp z263.1) fun x_277 => mb (mb (mp z263.2.1) fun x_275 => mb (mp ()) fun z276 => mp (x_275, z276)) fun z278 => mp (x_277, z278)) fun z279 => (m__law_passed z279.1 z279.2.1)) fun handed280 =>
  (mb (mb (mc (b62 ((2 : Int) : Int)) (rng 0 ((2 : Int) : Int).toNat)) fun xs => forC (β := Empty) xs () fun a282 (t281 : Unit) =>
    (mb (mb (mp (decide (z263.2.1 = (0 : Int)))) fun b289 => mi b289 (mb (mb (mp handed280) fun x_283 => mb (mp ()) fun z284 => mp (x_283, z284)) fun z285 => (m_three_mending z285.1)) (mb (mb (mp handed280) fun x_286 => mb (mp ()) fun z287 => mp (x_286, z287)) fun z288 => (m_three_mending z288.1))) fun told290 =>
    (mb (mb (mb (mldT (Int × Int) told290) fun xs291 => mu (mc (rprDok xs291) (rprD xs291))) fun x_292 => mb (mc (rprDok w_271.b) (rprD w_271.b)) fun y293 => mp (!decide (x_292 = y293))) fun b => mi b
      (mb (mp false) fun x => mp (.rt x))
      (mb (mb (mldL told290) fun _ => mb (mp (((0 : Int), (0 : Int)) : (Int × Int))) fun (x_295 : (Int × Int)) => mb (mldL told290) fun xs => mb (mc (lenOk xs.length) ()) fun _ => mput told290 (.lst (xs ++ [PyT.enc x_295]))) fun u_294 =>
    (mb (mb (mb (mldL told290) fun xs => mput told290 (.lst xs.reverse)) fun u_296 => mp ()) fun x => mp (.nx x)))))) (ctk (fun t297 => (mb (mb (mb (mu (m_three_can_be_left handed280)) fun x_298 => mp (!decide (x_298 = true))) fun b308 => mi b308 (mp true) (mb (mb (mb (mb (mb (mp handed280) fun x_300 => mb (mp ()) fun z301 => mp (x_300, z301)) fun z302 => (m_three_told z302.1)) fun x_303 => mb (mp ()) fun z304 => mp (x_303, z304)) fun z305 => mc (rprDok z305.1) (rprD z305.1)) fun x_306 => mb (mc (rprDok w_271.a) (rprD w_271.a)) fun y307 => mp (!decide (x_306 = y307)))) fun b => mi b
    (mp false)
    (mb (mc (rprDok ((Sq.mk handed280.t handed280.l) : (Sq Int))) (rprD ((Sq.mk handed280.t handed280.l) : (Sq Int)))) fun x_317 => mb (mb (mb (mb (mb (mp z263.1) fun x_311 => mb (mb (mp z263.2.1) fun x_309 => mb (mp ()) fun z310 => mp (x_309, z310)) fun z312 => mp (x_311, z312)) fun z313 => (m__law_passed z313.1 z313.2.1)) fun x_314 => mb (mp ()) fun z315 => mp (x_314, z315)) fun z316 => mc (rprDok z316.1) (rprD z316.1)) fun y318 => mp (decide (x_317 = y318))))) fun _ => mbad))))))
abbrev sp__law_told_right (K : PySem.W.Frag) : Sp := Prom (rIm K) (S := (Sto K)) (fun i : Ref × Ref × Int × (List Int) => [.im (pv K i.1), .im (pv K i.2.1), .im (pv K i.2.2.1), .im (pv K i.2.2.2)]) fun i => m__law_told_right i.1 i.2.1 i.2.2.1 i.2.2.2
theorem len__law_told_right : ∀ vs H Q E, sp__law_told_right K vs H Q E → vs.length = 4 := prom_len (S := (Sto K)) (Ret := (rIm K)) (As := fun i : Ref × Ref × Int × (List Int) => [.im (pv K i.1), .im (pv K i.2.1), .im (pv K i.2.2.1), .im (pv K i.2.2.2)]) (m := fun i => m__law_told_right i.1 i.2.1 i.2.2.1 i.2.2.2) fun _ => rfl
theorem sc__law_told_right : FnScope ["box", "world", "u", "pair", "view", "low", "value", "writes", "handed", "turn", "told"] ["box", "world", "u", "pair"] (defScope (top 32)) := ⟨rfl, rfl, rfl, by decide +kernel, rfl, by decide +kernel, by decide +kernel⟩
theorem fo__law_told_right {f : Addr} {fd : FuncData} (F : FnP K "_law_told_right" (top 32) f fd) (b_range : mg "range" = none) (b_repr : mg "repr" = none) (C__law_take : Cal P w K mg base 1 "_law_take" ["box", "many"] (sp__law_take K)) (C__law_reading : Cal P w K mg base 2 "_law_reading" ["view"] (sp__law_reading K)) (C__law_form : Cal P w K mg base 1 "_law_form" ["view", "u"] (sp__law_form K)) (C__law_passed : Cal P w K mg base 1 "_law_passed" ["view", "low"] (sp__law_passed K)) (C_three_mending : Cal P w K mg base 6 "three_mending" ["view"] (sp_three_mending K)) (D_three_mending__view : CalK P w K mg base 6 "three_mending" ["view"] (sp_three_mending K) ["view"] gl_three_mending__view gv_three_mending__view) (D_three_can_be_left__view : CalK P w K mg base 5 "three_can_be_left" ["view"] (sp_three_can_be_left K) ["view"] gl_three_can_be_left__view gv_three_can_be_left__view) (C_three_told : Cal P w K mg base 6 "three_told" ["view"] (sp_three_told K)) : FnG P w K mg base CX0 7 f fd ["box", "world", "u", "pair"] (sp__law_told_right K) := by
  obtain ⟨f__law_take, fd__law_take, G__law_take, g__law_take, kp__law_take, bi__law_take⟩ := C__law_take.ex
  obtain ⟨f__law_reading, fd__law_reading, G__law_reading, g__law_reading, kp__law_reading, bi__law_reading⟩ := C__law_reading.ex
  obtain ⟨f__law_form, fd__law_form, G__law_form, g__law_form, kp__law_form, bi__law_form⟩ := C__law_form.ex
  obtain ⟨f__law_passed, fd__law_passed, G__law_passed, g__law_passed, kp__law_passed, bi__law_passed⟩ := C__law_passed.ex
  obtain ⟨f_three_mending, fd_three_mending, G_three_mending, g_three_mending, kp_three_mending, bi_three_mending⟩ := C_three_mending.ex
  obtain ⟨f_three_mending__view, fd_three_mending__view, G_three_mending__view, g_three_mending__view, kp_three_mending__view, bi_three_mending__view⟩ := D_three_mending__view.ex
  obtain ⟨f_three_can_be_left__view, fd_three_can_be_left__view, G_three_can_be_left__view, g_three_can_be_left__view, kp_three_can_be_left__view, bi_three_can_be_left__view⟩ := D_three_can_be_left__view.ex
  obtain ⟨f_three_told, fd_three_told, G_three_told, g_three_told, kp_three_told, bi_three_told⟩ := C_three_told.ex
  refine okG F sc__law_told_right (len__law_told_right (K := K)) (fun cdv A outer s H vs Q E hgd hr h => ?_)
  have hl : vs.length = 4 := len__law_told_right (K := K) vs H Q E h
  match vs, hl, h with
  | [v0, v1, v2, v3], _, h => exact ⟨_, PSs.nox ((pss_cons (ps_par (i := 4) (j := 5) rfl sc__law_told_right.nd rfl rfl (by decide) rfl rfl (pa_cons (pe_dget (hu1 hr) (L2.pv 1) pe_str (fun _ _ => rfl)) (pa_cons (pe_call G__law_take (hr.mono (Nat.le_of_ble_eq_true rfl)) rfl g__law_take kp__law_take bi__law_take .nil pass0 (pa_cons (L2.pv 0) (pa_cons pe_int pa_nil))) pa_nil)) rfl) (pss_cons (ps_asg (pe_call G__law_reading (hr.mono (Nat.le_of_ble_eq_true rfl)) rfl g__law_reading kp__law_reading bi__law_reading .nil pass0 (pa_cons (L2.pv 4) pa_nil)) (pg_lst (n := 2) rfl (pgs_cons (pg_name (i := 6) sc__law_told_right.nd rfl (Or.inl rfl)) (pgs_cons (pg_name (i := 7) sc__law_told_right.nd rfl (Or.inl rfl)) pgs_nil)))) (pss_cons (ps_if (PW.pt (pw_or (pt_cmpR op_notIn_seq (L2.pv 6) (L2.pv 3) (by rfl)) (pw_or1 (pt_not (pt_val (pe_call G__law_form (hr.mono (Nat.le_of_ble_eq_true rfl)) rfl g__law_form kp__law_form bi__law_form .nil pass0 (pa_cons (L2.pv 4) (pa_cons (L2.pv 2) pa_nil)))))))) (pss_one (ps_ret pe_bl)) pss_nil) (pss_cons (ps_set (i := 8) sc__law_told_right.nd rfl (Or.inl rfl) (pe_call G__law_passed (hr.mono (Nat.le_of_ble_eq_true rfl)) rfl g__law_passed kp__law_passed bi__law_passed .nil pass0 (pa_cons (L2.pv 4) (pa_cons (L2.pv 5) pa_nil)))) (pss_cons (ps_for PassesOwn.never rfl (pi_range1 rfl b_range (pa_cons pe_int pa_nil)) (pg_name (i := 9) sc__law_told_right.nd rfl (Or.inl rfl)) (pss_cons (ps_set (i := 10) sc__law_told_right.nd rfl (Or.inl rfl) (pe_ifExp (pt_cmpR op_eq (L2.pv 5) pe_int (nomark _)) (pe_call G_three_mending (hr.mono (Nat.le_of_ble_eq_true rfl)) rfl g_three_mending kp_three_mending bi_three_mending .nil pass0 (pa_cons (L2.pv 8) pa_nil)) (pe_callK0 G_three_mending__view (hr.mono (Nat.le_of_ble_eq_true rfl)) rfl g_three_mending__view kp_three_mending__view bi_three_mending__view pass0 (pk_cons (L2.pv 8) pk_nil)))) (pss_cons (ps_if (pt_cmpR op_ne (pe_callB (cr_reprD hgd (hu66 hr)) rfl b_repr bt_repr (pa_cons (L2.pv 10) pa_nil)) (pe_callB (cr_reprD hgd (hu66 hr)) rfl b_repr bt_repr (pa_cons (L2.pv 7) pa_nil)) (nomark _)) (pss_one (ps_ret pe_bl)) pss_nil) (pss_cons (ps_expr (pe_bm PySem.F.plainAttrs_list PySem.F.slot_list_append PySem.F.type_list_append mt_append (L2.pv 10) (pa_cons (pe_tup (pa_cons pe_int (pa_cons pe_int pa_nil))) pa_nil))) (pss_one (ps_expr (pe_bm0 PySem.F.plainAttrs_list PySem.F.slot_list_reverse PySem.F.type_list_reverse mt_reverse (L2.pv 10)))))))) (pss_cons (ps_if (PW.pt (pw_or (pt_cmpR op_notBl (pe_callK0 G_three_can_be_left__view (hr.mono (Nat.le_of_ble_eq_true rfl)) rfl g_three_can_be_left__view kp_three_can_be_left__view bi_three_can_be_left__view pass0 (pk_cons (L2.pv 8) pk_nil)) pe_bl (nomark _)) (pw_or1 (pt_cmpR op_ne (pe_callB (cr_reprD hgd (hu66 hr)) rfl b_repr bt_repr (pa_cons (pe_call G_three_told (hr.mono (Nat.le_of_ble_eq_true rfl)) rfl g_three_told kp_three_told bi_three_told .nil pass0 (pa_cons (L2.pv 8) pa_nil)) pa_nil)) (pe_callB (cr_reprD hgd (hu66 hr)) rfl b_repr bt_repr (pa_cons (L2.pv 6) pa_nil)) (nomark _))))) (pss_one (ps_ret pe_bl)) pss_nil) (pss_one (ps_ret (pe_cmpR op_eq (pe_callB (cr_reprD hgd (hu66 hr)) rfl b_repr bt_repr (pa_cons (L2.pv 8) pa_nil)) (pe_callB (cr_reprD hgd (hu66 hr)) rfl b_repr bt_repr (pa_cons (pe_call G__law_passed (hr.mono (Nat.le_of_ble_eq_true rfl)) rfl g__law_passed kp__law_passed bi__law_passed .nil pass0 (pa_cons (L2.pv 4) (pa_cons (L2.pv 5) pa_nil))) pa_nil)) (nomark _))))))))))), prom_ok (n := 4) (S := (Sto K)) (Ret := (rIm K)) (As := fun i : Ref × Ref × Int × (List Int) => [.im (pv K i.1), .im (pv K i.2.1), .im (pv K i.2.2.1), .im (pv K i.2.2.2)]) (m := fun i => m__law_told_right i.1 i.2.1 i.2.2.1 i.2.2.2) 7 (fun _ => rfl) rfl (fun (box, world, u_, pair) => (show RN (rIm K) _ (fun (s : (Sto K)) => [.im (pv K box), .im (pv K world), .im (pv K u_), .im (pv K pair), .no, .no, .no, .no, .no, .no, .no]) (m__law_told_right box world u_ pair) (fun (s : (Sto K)) => [.no, .no, .no, .no, .no, .no, .no, .no, .no, .no, .no]) from (rn_of (rt_seq (rp_asg2 (Γ' := fun (z263 : Ref × Int × Unit) (s : (Sto K)) => [.im (pv K box), .im (pv K world), .im (pv K u_), .im (pv K pair), .im (pv K z263.1), .im (pv K z263.2.1), .no, .no, .no, .no, .no]) (ao_m (em_dget (em_pure fun _ => (ep_var rfl)) (em_pure fun _ => ep_str)) (ao_m (em_of_eo (eo_callS (f := fun (z262 : Ref × Int × Unit) => (z262.1, z262.2.1)) (am_cons (em_pure fun _ => (ep_var rfl)) (am_cons (em_pure fun _ => (ep_int (K := K))) am_nil)) (fun _ _ => rfl) fun _ _ => rfl)) ao_nil)) (fun _ => asg_ok rfl) (fun _ => rfl) (fun _ => rfl) fun _ _ => rfl) fun z263 => (rt_seq (rp_unp2h (Γ := fun (s : (Sto K)) => [.im (pv K box), .im (pv K world), .im (pv K u_), .im (pv K pair), .im (pv K z263.1), .im (pv K z263.2.1), .no, .no, .no, .no, .no]) (Γ' := fun w_271 (s : (Sto K)) => [.im (pv K box), .im (pv K world), .im (pv K u_), .im (pv K pair), .im (pv K z263.1), .im (pv K z263.2.1), .im (pv K w_271.a), .im (pv K w_271.b), .no, .no, .no]) [6, 7] (em_of_eo (eo_callS (f := fun (z270 : Ref × Unit) => z270.1) (am_cons (em_pure fun _ => (ep_var rfl)) am_nil) (fun _ _ => rfl) fun _ _ => rfl)) (fun _ => asg_ok rfl) fun _ _ => rfl) fun w_271 => (rt_ifr (tm_or (tm_pure fun _ => (tp_test (ep_op (ep_var rfl) (ep_var rfl) o_notIn))) (tm_not (tm_B (em_borR (r := z263.1) (Γ0 := [.im (pv K box), .im (pv K world), .im (pv K u_), .im (pv K pair), .im (pv K z263.1), .im (pv K z263.2.1), .im (pv K w_271.a), .im (pv K w_271.b), .no, .no, .no]) (j := 4) (Γ1 := fun xs272 => [.im (pv K box), .im (pv K world), .im (pv K u_), .im (pv K pair), .im (pv K xs272), .im (pv K z263.2.1), .im (pv K w_271.a), .im (pv K w_271.b), .no, .no, .no]) (fun _ => (.cons (.rfl _) (.cons (.rfl _) (.cons (.rfl _) (.cons (.rfl _) (.cons (.rfl _) (.cons (.rfl _) (.cons (.rfl _) (.cons (.rfl _) (.cons (.rfl _) (.cons (.rfl _) (.cons (.rfl _) .nil)))))))))))) rfl rfl (fun _ => rfl) (fun xs272 => (em_of_eo (eo_call0 (i := (xs272, u_)) (ps := [pv K xs272, pv K u_]) (fun _ => (ap_cons (ep_var rfl) (ap_cons (ep_var rfl) ap_nil))) rfl))) fun _ => rfl)))) (rt_ret (em_pure fun _ => (ep_bl (K := K))) fun s => (.cons (.no _) (.cons (.no _) (.cons (.no _) (.cons (.no _) (.cons (.no _) (.cons (.no _) (.cons (.no _) (.cons (.no _) (.cons (.rfl _) (.cons (.rfl _) (.cons (.rfl _) .nil)))))))))))) (rt_seq (rp_asg (Γ := fun (s : (Sto K)) => [.im (pv K box), .im (pv K world), .im (pv K u_), .im (pv K pair), .im (pv K z263.1), .im (pv K z263.2.1), .im (pv K w_271.a), .im (pv K w_271.b), .no, .no, .no]) (i := 8) (Γ' := fun handed280 (s : (Sto K)) => [.im (pv K box), .im (pv K world), .im (pv K u_), .im (pv K pair), .im (pv K z263.1), .im (pv K z263.2.1), .im (pv K w_271.a), .im (pv K w_271.b), .im (pv K handed280), .no, .no]) (em_of_eo (eo_callS (f := fun (z279 : Ref × Int × Unit) => (z279.1, z279.2.1)) (am_cons (em_pure fun _ => (ep_var rfl)) (am_cons (em_pure fun _ => (ep_var rfl)) am_nil)) (fun _ _ => rfl) fun _ _ => rfl)) (fun _ => rfl) fun _ _ => rfl) fun handed280 => (rt_seqC (rc_for (β := Empty) (Γb := fun b _ => nomatch b) (Γr := (fun (s : (Sto K)) => [.no, .no, .no, .no, .no, .no, .no, .no, .no, .no, .no])) (ΓL := fun (t281 : Unit) (s : (Sto K)) => [.im (pv K box), .im (pv K world), .im (pv K u_), .im (pv K pair), .im (pv K z263.1), .im (pv K z263.2.1), .im (pv K w_271.a), .im (pv K w_271.b), .im (pv K handed280), .no, .no]) (Γx := fun (a282 : Int) (t281 : Unit) (s : (Sto K)) => [.im (pv K box), .im (pv K world), .im (pv K u_), .im (pv K pair), .im (pv K z263.1), .im (pv K z263.2.1), .im (pv K w_271.a), .im (pv K w_271.b), .im (pv K handed280), .im (pv K a282), .no]) (im_rng1 fun _ => (ap_cons (ep_int (K := K)) ap_nil)) (fun s => (.cons (.rfl _) (.cons (.rfl _) (.cons (.rfl _) (.cons (.rfl _) (.cons (.rfl _) (.cons (.rfl _) (.cons (.rfl _) (.cons (.rfl _) (.cons (.rfl _) (.cons (.rfl _) (.cons (.rfl _) .nil)))))))))))) (fun a282 t281 s => (gt_name (Γ := [.im (pv K box), .im (pv K world), .im (pv K u_), .im (pv K pair), .im (pv K z263.1), .im (pv K z263.2.1), .im (pv K w_271.a), .im (pv K w_271.b), .im (pv K handed280), .no, .no]) (i := 9) (Γ' := [.im (pv K box), .im (pv K world), .im (pv K u_), .im (pv K pair), .im (pv K z263.1), .im (pv K z263.2.1), .im (pv K w_271.a), .im (pv K w_271.b), .im (pv K handed280), .im (pv K a282), .no]) rfl rfl)) fun a282 t281 => (rc_seqP (rp_asg (Γ := fun (s : (Sto K)) => [.im (pv K box), .im (pv K world), .im (pv K u_), .im (pv K pair), .im (pv K z263.1), .im (pv K z263.2.1), .im (pv K w_271.a), .im (pv K w_271.b), .im (pv K handed280), .im (pv K a282), .no]) (i := 10) (Γ' := fun told290 (s : (Sto K)) => [.im (pv K box), .im (pv K world), .im (pv K u_), .im (pv K pair), .im (pv K z263.1), .im (pv K z263.2.1), .im (pv K w_271.a), .im (pv K w_271.b), .im (pv K handed280), .im (pv K a282), .im (pv K told290)]) (em_if (tm_pure fun _ => (tp_test (ep_op (ep_var rfl) (ep_int (K := K)) o_eq))) (em_of_eo (eo_callS (f := fun (z285 : (Sv Int) × Unit) => z285.1) (am_cons (em_pure fun _ => (ep_var rfl)) am_nil) (fun _ _ => rfl) fun _ _ => rfl)) (em_of_eo (eo_callKS (f := fun (z288 : (Sv Int) × Unit) => z288.1) (qsf := fun (z288 : (Sv Int) × Unit) => [pv K z288.1]) (am_cons (em_pure fun _ => (ep_var rfl)) am_nil) (by intro z288 I vs h; obtain ⟨_, _, rfl, r0, h⟩ := all2_c h; cases all2_n h; exact (.cons r0 .nil)) (fun _ _ => rfl) fun _ _ => rfl))) (fun _ => rfl) fun _ _ => rfl) fun told290 => (rc_ifr (tm_test (em_op (g := fun (u : Str) (v : Str) => (!decide (u = v))) (em_borR (r := told290) (Γ0 := [.im (pv K box), .im (pv K world), .im (pv K u_), .im (pv K pair), .im (pv K z263.1), .im (pv K z263.2.1), .im (pv K w_271.a), .im (pv K w_271.b), .im (pv K handed280), .im (pv K a282), .im (pv K told290)]) (j := 10) (Γ1 := fun xs291 => [.im (pv K box), .im (pv K world), .im (pv K u_), .im (pv K pair), .im (pv K z263.1), .im (pv K z263.2.1), .im (pv K w_271.a), .im (pv K w_271.b), .im (pv K handed280), .im (pv K a282), .im (pv K xs291)]) (fun _ => (.cons (.rfl _) (.cons (.rfl _) (.cons (.rfl _) (.cons (.rfl _) (.cons (.rfl _) (.cons (.rfl _) (.cons (.rfl _) (.cons (.rfl _) (.cons (.rfl _) (.cons (.rfl _) (.cons (.rfl _) .nil)))))))))))) rfl rfl (fun _ => rfl) (fun xs291 => (em_cbC0 (fun _ => (ap_cons (ep_var rfl) ap_nil)) fun h => (c_reprD (Nat.le_of_ble_eq_true rfl) h))) fun _ => rfl) (em_cbC0 (fun _ => (ap_cons (ep_var rfl) ap_nil)) fun h => (c_reprD (Nat.le_of_ble_eq_true rfl) h)) fun _ _ => o_ne)) (rx_ret (rt_ret (em_pure fun _ => (ep_bl (K := K))) fun s => (.cons (.no _) (.cons (.no _) (.cons (.no _) (.cons (.no _) (.cons (.no _) (.cons (.no _) (.cons (.no _) (.cons (.no _) (.cons (.no _) (.cons (.no _) (.cons (.no _) .nil))))))))))))) (rc_seqP (rp_appR (r := told290) (fun _ => (ep_var rfl)) (em_pure fun _ => (ep_tup (ap_cons (ep_int (K := K)) (ap_cons (ep_int (K := K)) ap_nil)) tup2)) fun _ _ => rfl) fun u_294 => (rc_of_p (rp_post (f := fun u_296 => ()) (rp_revR (r := told290) (fun _ => (ep_var rfl)) fun _ _ => rfl) fun u_296 s => (.cons (.rfl _) (.cons (.rfl _) (.cons (.rfl _) (.cons (.rfl _) (.cons (.rfl _) (.cons (.rfl _) (.cons (.rfl _) (.cons (.rfl _) (.cons (.rfl _) (.cons (.no _) (.cons (.no _) .nil))))))))))))))))) fun t297 => (rt_ifr (tm_or (tm_test (em_opr (g := fun (u : Bool) (v : Bool) => (!decide (u = v))) (em_of_eo (eo_callK (i := handed280) (qs := [pv K handed280]) (fun _ => (ap_cons (ep_var rfl) ap_nil)) (by intro I vs h; obtain ⟨_, _, rfl, r0, h⟩ := all2_c h; cases all2_n h; exact (.cons r0 .nil)) rfl)) (fun _ => (ep_bl (K := K))) fun _ => o_notB)) (tm_test (em_op (g := fun (u : Str) (v : Str) => (!decide (u = v))) (em_cbC (f := fun (z305 : Int × Unit) => (rprD z305.1)) (g := fun (z305 : Int × Unit) => rprDok z305.1) (am_cons (em_of_eo (eo_callS (f := fun (z302 : (Sv Int) × Unit) => z302.1) (am_cons (em_pure fun _ => (ep_var rfl)) am_nil) (fun _ _ => rfl) fun _ _ => rfl)) am_nil) fun _ h => (c_reprD (Nat.le_of_ble_eq_true rfl) h)) (em_cbC0 (fun _ => (ap_cons (ep_var rfl) ap_nil)) fun h => (c_reprD (Nat.le_of_ble_eq_true rfl) h)) fun _ _ => o_ne))) (rt_ret (em_pure fun _ => (ep_bl (K := K))) fun s => (.cons (.no _) (.cons (.no _) (.cons (.no _) (.cons (.no _) (.cons (.no _) (.cons (.no _) (.cons (.no _) (.cons (.no _) (.cons (.no _) (.cons (.rfl _) (.cons (.rfl _) .nil)))))))))))) (rt_ret (em_op (g := fun (u : Str) (v : Str) => decide (u = v)) (em_cbC0 (fun _ => (ap_cons (ep_svQ (ep_var rfl)) ap_nil)) fun h => (c_reprD (Nat.le_of_ble_eq_true rfl) h)) (em_cbC (f := fun (z316 : (Sv Int) × Unit) => (rprD z316.1)) (g := fun (z316 : (Sv Int) × Unit) => rprDok z316.1) (am_cons (em_of_eo (eo_callS (f := fun (z313 : Ref × Int × Unit) => (z313.1, z313.2.1)) (am_cons (em_pure fun _ => (ep_var rfl)) (am_cons (em_pure fun _ => (ep_var rfl)) am_nil)) (fun _ _ => rfl) fun _ _ => rfl)) am_nil) fun _ h => (c_reprD (Nat.le_of_ble_eq_true rfl) h)) fun _ _ => o_eq) fun s => (.cons (.no _) (.cons (.no _) (.cons (.no _) (.cons (.no _) (.cons (.no _) (.cons (.no _) (.cons (.no _) (.cons (.no _) (.cons (.no _) (.cons (.rfl _) (.cons (.rfl _) .nil))))))))))))))))))))) h⟩
theorem ok__law_told_right {f : Addr} {fd : FuncData} (F : FnP K "_law_told_right" (top 32) f fd) (hg : mg "_law_told_right" = some (.ref f)) (b_range : mg "range" = none) (b_repr : mg "repr" = none) (C__law_take : Cal P w K mg base 1 "_law_take" ["box", "many"] (sp__law_take K)) (C__law_reading : Cal P w K mg base 2 "_law_reading" ["view"] (sp__law_reading K)) (C__law_form : Cal P w K mg base 1 "_law_form" ["view", "u"] (sp__law_form K)) (C__law_passed : Cal P w K mg base 1 "_law_passed" ["view", "low"] (sp__law_passed K)) (C_three_mending : Cal P w K mg base 6 "three_mending" ["view"] (sp_three_mending K)) (D_three_mending__view : CalK P w K mg base 6 "three_mending" ["view"] (sp_three_mending K) ["view"] gl_three_mending__view gv_three_mending__view) (D_three_can_be_left__view : CalK P w K mg base 5 "three_can_be_left" ["view"] (sp_three_can_be_left K) ["view"] gl_three_can_be_left__view gv_three_can_be_left__view) (C_three_told : Cal P w K mg base 6 "three_told" ["view"] (sp_three_told K)) : CalG P w K mg base 7 "_law_told_right" ["box", "world", "u", "pair"] (sp__law_told_right K) := ⟨f, fd, fo__law_told_right F b_range b_repr C__law_take C__law_reading C__law_form C__law_passed C_three_mending D_three_mending__view D_three_can_be_left__view C_three_told, hg, F.kp, F.bindsN fun _ _ _ _ _ _ us hl => match us, hl with | [_, _, _, _], _ => rfl⟩
def m__law_content (box : Ref) (great : Bool) : Mn (Sto K) Int :=
  (mb (mb (mb (mb (mp box) fun x_321 => mb (mb (mp ((3 : Int) : Int)) fun x_319 => mb (mp ()) fun z320 => mp (x_319, z320)) fun z322 => mp (x_321, z322)) fun z323 => (m__law_take z323.1 z323.2.1)) fun x_339 => mb (mb (mb (mb (mp box) fun x_326 => mb (mb (mp ((4 : Int) : Int)) fun x_324 => mb (mp ()) fun z325 => mp (x_324, z325)) fun z327 => mp (x_326, z327)) fun z328 => (m__law_take z328.1 z328.2.1)) fun x_337 => mb (mb (mb (mb (mp box) fun x_331 => mb (mb (mp ((997 : Int) : Int)) fun x_329 => mb (mp ()) fun z330 => mp (x_329, z330)) fun z332 => mp (x_331, z332)) fun z333 => (m__law_take z333.1 z333.2.1)) fun x_335 => mb (mp ()) fun z336 => mp (x_335, z336)) fun z338 => mp (x_337, z338)) fun z340 => mp (x_339, z340)) fun z334 =>
  (mp ((cond (decide (z334.1 = (0 : Int))) z334.2.2.1 z334.2.1) : Int)))
abbrev sp__law_content (K : PySem.W.Frag) : Sp := Prom (rIm K) (S := (Sto K)) (fun i : Ref × Bool => [.im (pv K i.1), .im (pv K i.2)]) fun i => m__law_content i.1 i.2
theorem len__law_content : ∀ vs H Q E, sp__law_content K vs H Q E → vs.length = 2 := prom_len (S := (Sto K)) (Ret := (rIm K)) (As := fun i : Ref × Bool => [.im (pv K i.1), .im (pv K i.2)]) (m := fun i => m__law_content i.1 i.2) fun _ => rfl
theorem sc__law_content : FnScope ["box", "great", "way", "drawn", "wide"] ["box", "great"] (defScope (top 33)) := ⟨rfl, rfl, rfl, by decide +kernel, rfl, by decide +kernel, by decide +kernel⟩
theorem fo__law_content {f : Addr} {fd : FuncData} (F : FnP K "_law_content" (top 33) f fd) (C__law_take : Cal P w K mg base 1 "_law_take" ["box", "many"] (sp__law_take K)) : FnOk P w K mg base CX0 2 f fd ["box", "great"] (sp__law_content K) := by
  obtain ⟨f__law_take, fd__law_take, G__law_take, g__law_take, kp__law_take, bi__law_take⟩ := C__law_take.ex
  refine F.ok sc__law_content (len__law_content (K := K)) (fun cdv A outer s H vs Q E hr h => ?_)
  have hl : vs.length = 2 := len__law_content (K := K) vs H Q E h
  match vs, hl, h with
  | [v0, v1], _, h => exact ⟨_, PSs.nox ((pss_cons (ps_par3 (i := 2) (j := 3) (l := 4) rfl sc__law_content.nd rfl rfl rfl (by decide) (by decide) (by decide) rfl rfl rfl (pa_cons (pe_call G__law_take (hr.mono (Nat.le_of_ble_eq_true rfl)) rfl g__law_take kp__law_take bi__law_take .nil pass0 (pa_cons (L2.pv 0) (pa_cons pe_int pa_nil))) (pa_cons (pe_call G__law_take (hr.mono (Nat.le_of_ble_eq_true rfl)) rfl g__law_take kp__law_take bi__law_take .nil pass0 (pa_cons (L2.pv 0) (pa_cons pe_int pa_nil))) (pa_cons (pe_call G__law_take (hr.mono (Nat.le_of_ble_eq_true rfl)) rfl g__law_take kp__law_take bi__law_take .nil pass0 (pa_cons (L2.pv 0) (pa_cons pe_int pa_nil))) pa_nil))) rfl) (pss_one (ps_ret (pe_ifExp (pt_cmpR op_eq (L2.pv 2) pe_int (nomark _)) (L2.pv 4) (L2.pv 3)))))), prom_ok (n := 2) (S := (Sto K)) (Ret := (rIm K)) (As := fun i : Ref × Bool => [.im (pv K i.1), .im (pv K i.2)]) (m := fun i => m__law_content i.1 i.2) 3 (fun _ => rfl) rfl (fun (box, great) => (show RN (rIm K) _ (fun (s : (Sto K)) => [.im (pv K box), .im (pv K great), .no, .no, .no]) (m__law_content box great) (fun (s : (Sto K)) => [.no, .no, .no, .no, .no]) from (rn_of (rt_seq (rp_asg3 (Γ' := fun (z334 : Int × Int × Int × Unit) (s : (Sto K)) => [.im (pv K box), .im (pv K great), .im (pv K z334.1), .im (pv K z334.2.1), .im (pv K z334.2.2.1)]) (ao_m (em_of_eo (eo_callS (f := fun (z323 : Ref × Int × Unit) => (z323.1, z323.2.1)) (am_cons (em_pure fun _ => (ep_var rfl)) (am_cons (em_pure fun _ => (ep_int (K := K))) am_nil)) (fun _ _ => rfl) fun _ _ => rfl)) (ao_m (em_of_eo (eo_callS (f := fun (z328 : Ref × Int × Unit) => (z328.1, z328.2.1)) (am_cons (em_pure fun _ => (ep_var rfl)) (am_cons (em_pure fun _ => (ep_int (K := K))) am_nil)) (fun _ _ => rfl) fun _ _ => rfl)) (ao_m (em_of_eo (eo_callS (f := fun (z333 : Ref × Int × Unit) => (z333.1, z333.2.1)) (am_cons (em_pure fun _ => (ep_var rfl)) (am_cons (em_pure fun _ => (ep_int (K := K))) am_nil)) (fun _ _ => rfl) fun _ _ => rfl)) ao_nil))) (fun _ => asg_ok rfl) (fun _ => rfl) (fun _ => rfl) fun _ _ => rfl) fun z334 => (rt_ret (em_pure fun _ => (ep_if (tp_test (ep_op (ep_var rfl) (ep_int (K := K)) o_eq)) (fun _ => (ep_var rfl)) fun _ => (ep_var rfl))) fun s => (.cons (.no _) (.cons (.no _) (.cons (.no _) (.cons (.no _) (.cons (.no _) .nil)))))))))) h⟩
theorem ok__law_content {f : Addr} {fd : FuncData} (F : FnP K "_law_content" (top 33) f fd) (hg : mg "_law_content" = some (.ref f)) (C__law_take : Cal P w K mg base 1 "_law_take" ["box", "many"] (sp__law_take K)) : Cal P w K mg base 2 "_law_content" ["box", "great"] (sp__law_content K) := ⟨f, fd, fo__law_content F C__law_take, hg, F.kp, F.bindsN fun _ _ _ _ _ _ us hl => match us, hl with | [_, _], _ => rfl⟩
def m__law_losses (box : Ref) (world : Ref) : Mn (Sto K) Unit :=
  (mb (mb (mb (mb (mp box) fun x_343 => mb (mb (mp ((3 : Int) : Int)) fun x_341 => mb (mp ()) fun z342 => mp (x_341, z342)) fun z344 => mp (x_343, z344)) fun z345 => (m__law_take z345.1 z345.2.1)) fun x_354 => mb (mb (mb (mb (mp box) fun x_348 => mb (mb (mp ((4 : Int) : Int)) fun x_346 => mb (mp ()) fun z347 => mp (x_346, z347)) fun z349 => mp (x_348, z349)) fun z350 => (m__law_take z350.1 z350.2.1)) fun x_352 => mb (mp ()) fun z353 => mp (x_352, z353)) fun z355 => mp (x_354, z355)) fun z351 =>
  (mb (mb (mb (mb (mo (atI (([(0 : Int), z351.2.1, (63 : Int)] : (List Int)) : (List Int)) z351.1)) fun x_359 => mb (mp ()) fun z360 => mp (x_359, z360)) fun z361 => mc (b62 z361.1) (rng 0 z361.1.toNat)) fun xs => forP xs world fun a362 (t356 : Ref) =>
    (mb (mb (mb (mb (mb (mb (mb (mp t356) fun r363 => mb (mp ("view" : Str)) fun i364 => mb (mldD r363) fun xs => mo ((getP xs (Ky.key i364)).bind (PyT.dec (α := Ref)))) fun r365 => mldT Int r365) fun xs => mp ((xs.length : Nat) : Int)) fun x_366 => mp (decide ((2 : Int) < x_366))) fun b376 => mi b376 (mb (mp (decide (z351.1 = (1 : Int)))) fun b375 => mi b375 (mp true) (mb (mb (mb (mp box) fun x_370 => mb (mb (mp ((8 : Int) : Int)) fun x_368 => mb (mp ()) fun z369 => mp (x_368, z369)) fun z371 => mp (x_370, z371)) fun z372 => (m__law_take z372.1 z372.2.1)) fun x_373 => mp (decide ((0 : Int) < x_373)))) (mp false)) fun b => mi b
    (mb (mb (mb (mp box) fun x_383 => mb (mb (mb (mb (mb (mp t356) fun r378 => mb (mp ("view" : Str)) fun i379 => mb (mldD r378) fun xs => mo ((getP xs (Ky.key i379)).bind (PyT.dec (α := Ref)))) fun r380 => mldT Int r380) fun xs => mp ((xs.length : Nat) : Int)) fun x_381 => mb (mp ()) fun z382 => mp (x_381, z382)) fun z384 => mp (x_383, z384)) fun z385 => (m__law_take z385.1 z385.2.1)) fun at_386 =>
    (mb (mb (mb (mb (mb (mb (mb (mp t356) fun r387 => mb (mp ("view" : Str)) fun i388 => mb (mldD r387) fun xs => mo ((getP xs (Ky.key i388)).bind (PyT.dec (α := Ref)))) fun r389 => mldT Int r389) fun x_390 => mp (cutL x_390 none (some at_386))) fun xs => mb (mb (mb (mb (mp t356) fun r391 => mb (mp ("view" : Str)) fun i392 => mb (mldD r391) fun xs => mo ((getP xs (Ky.key i392)).bind (PyT.dec (α := Ref)))) fun r393 => mldT Int r393) fun x_394 => mp (cutL x_394 (some (at_386 + (1 : Int))) none)) fun ys => mc (lenOk (xs.length + ys.length)) (xs ++ ys)) fun (xs : (List Int)) => mnew (.lst (xs.map PyT.enc))) fun (x_396 : Ref) => mb (mp t356) fun r397 => mb (mp ("view" : Str)) fun i398 => mb (mldD r397) fun xs => mb (mc (dicOk xs.length) ()) fun _ => mput r397 (.dic (putP xs (Ky.key i398) (PyT.enc x_396)))) fun u_395 => mp t356))
    (mp t356)) fun t377 => mp t377)) fun _ => mp ()))
abbrev sp__law_losses (K : PySem.W.Frag) : Sp := Prom (rIm K) (S := (Sto K)) (fun i : Ref × Ref => [.im (pv K i.1), .im (pv K i.2)]) fun i => m__law_losses i.1 i.2
theorem len__law_losses : ∀ vs H Q E, sp__law_losses K vs H Q E → vs.length = 2 := prom_len (S := (Sto K)) (Ret := (rIm K)) (As := fun i : Ref × Ref => [.im (pv K i.1), .im (pv K i.2)]) (m := fun i => m__law_losses i.1 i.2) fun _ => rfl
theorem sc__law_losses : FnScope ["box", "world", "way", "many", "turn", "at"] ["box", "world"] (defScope (top 34)) := ⟨rfl, rfl, rfl, by decide +kernel, rfl, by decide +kernel, by decide +kernel⟩
theorem fo__law_losses {f : Addr} {fd : FuncData} (F : FnP K "_law_losses" (top 34) f fd) (b_len : mg "len" = none) (b_range : mg "range" = none) (C__law_take : Cal P w K mg base 1 "_law_take" ["box", "many"] (sp__law_take K)) : FnOk P w K mg base CX0 2 f fd ["box", "world"] (sp__law_losses K) := by
  obtain ⟨f__law_take, fd__law_take, G__law_take, g__law_take, kp__law_take, bi__law_take⟩ := C__law_take.ex
  refine F.ok sc__law_losses (len__law_losses (K := K)) (fun cdv A outer s H vs Q E hr h => ?_)
  have hl : vs.length = 2 := len__law_losses (K := K) vs H Q E h
  match vs, hl, h with
  | [v0, v1], _, h => exact ⟨_, PSs.nox ((pss_cons (ps_par (i := 2) (j := 3) rfl sc__law_losses.nd rfl rfl (by decide) rfl rfl (pa_cons (pe_call G__law_take (hr.mono (Nat.le_of_ble_eq_true rfl)) rfl g__law_take kp__law_take bi__law_take .nil pass0 (pa_cons (L2.pv 0) (pa_cons pe_int pa_nil))) (pa_cons (pe_call G__law_take (hr.mono (Nat.le_of_ble_eq_true rfl)) rfl g__law_take kp__law_take bi__law_take .nil pass0 (pa_cons (L2.pv 0) (pa_cons pe_int pa_nil))) pa_nil)) rfl) (pss_one (ps_for PassesOwn.never rfl (pi_range1 rfl b_range (pa_cons (pe_ix ix_list (pe_lst (pa_cons pe_int (pa_cons (L2.pv 3) (pa_cons pe_int pa_nil)))) (L2.pv 2) (fun _ _ => rfl)) pa_nil)) (pg_name (i := 4) sc__law_losses.nd rfl (Or.inl rfl)) (pss_one (ps_if (PW.pt (pw_and (pt_cmpR op_gt (pe_callB call_len_seq rfl b_len bt_len (pa_cons (pe_dget (hu1 hr) (L2.pv 1) pe_str (fun _ _ => rfl)) pa_nil)) pe_int (nomark _)) (pw_and1 (PW.pt (pw_or (pt_cmpR op_eq (L2.pv 2) pe_int (nomark _)) (pw_or1 (pt_cmpR op_gt (pe_call G__law_take (hr.mono (Nat.le_of_ble_eq_true rfl)) rfl g__law_take kp__law_take bi__law_take .nil pass0 (pa_cons (L2.pv 0) (pa_cons pe_int pa_nil))) pe_int (nomark _)))))))) (pss_cons (ps_set (i := 5) sc__law_losses.nd rfl (Or.inl rfl) (pe_call G__law_take (hr.mono (Nat.le_of_ble_eq_true rfl)) rfl g__law_take kp__law_take bi__law_take .nil pass0 (pa_cons (L2.pv 0) (pa_cons (pe_callB call_len_seq rfl b_len bt_len (pa_cons (pe_dget (hu1 hr) (L2.pv 1) pe_str (fun _ _ => rfl)) pa_nil)) pa_nil)))) (pss_one (ps_dput (hu1 hr) (L2.pv 1) pe_str (pe_op op_cat (pe_slice sl_list (pe_dget (hu1 hr) (L2.pv 1) pe_str (fun _ _ => rfl)) po_none (po_some (L2.pv 5))) (pe_slice sl_list (pe_dget (hu1 hr) (L2.pv 1) pe_str (fun _ _ => rfl)) (po_some (pe_op op_add (L2.pv 5) pe_int)) po_none)) rfl))) pss_nil)))))), prom_ok (n := 2) (S := (Sto K)) (Ret := (rIm K)) (As := fun i : Ref × Ref => [.im (pv K i.1), .im (pv K i.2)]) (m := fun i => m__law_losses i.1 i.2) 4 (fun _ => rfl) rfl (fun (box, world) => (show RN (rIm K) _ (fun (s : (Sto K)) => [.im (pv K box), .im (pv K world), .no, .no, .no, .no]) (m__law_losses box world) (fun (s : (Sto K)) => [.no, .no, .no, .no, .no, .no]) from ((rn_seq (rp_asg2 (Γ' := fun (z351 : Int × Int × Unit) (s : (Sto K)) => [.im (pv K box), .im (pv K world), .im (pv K z351.1), .im (pv K z351.2.1), .no, .no]) (ao_m (em_of_eo (eo_callS (f := fun (z345 : Ref × Int × Unit) => (z345.1, z345.2.1)) (am_cons (em_pure fun _ => (ep_var rfl)) (am_cons (em_pure fun _ => (ep_int (K := K))) am_nil)) (fun _ _ => rfl) fun _ _ => rfl)) (ao_m (em_of_eo (eo_callS (f := fun (z350 : Ref × Int × Unit) => (z350.1, z350.2.1)) (am_cons (em_pure fun _ => (ep_var rfl)) (am_cons (em_pure fun _ => (ep_int (K := K))) am_nil)) (fun _ _ => rfl) fun _ _ => rfl)) ao_nil)) (fun _ => asg_ok rfl) (fun _ => rfl) (fun _ => rfl) fun _ _ => rfl) fun z351 => (rn_last (rp_for (ΓL := fun (t356 : Ref) (s : (Sto K)) => [.im (pv K box), .im (pv K t356), .im (pv K z351.1), .im (pv K z351.2.1), .no, .no]) (Γx := fun (a362 : Int) (t356 : Ref) (s : (Sto K)) => [.im (pv K box), .im (pv K t356), .im (pv K z351.1), .im (pv K z351.2.1), .im (pv K a362), .no]) (im_rng1M (f := fun (z361 : Int × Unit) => z361.1) (am_cons (em_ixLp (fun _ => (ep_lst (xs := ([(0 : Int), z351.2.1, (63 : Int)] : (List Int))) (hl := Nat.le_of_ble_eq_true rfl) (ap_cons (ep_int (K := K)) (ap_cons (ep_var rfl) (ap_cons (ep_int (K := K)) ap_nil))))) fun _ => (ep_var rfl)) am_nil)) (fun s => (.cons (.rfl _) (.cons (.rfl _) (.cons (.rfl _) (.cons (.rfl _) (.cons (.rfl _) (.cons (.rfl _) .nil))))))) (fun a362 t356 s => (gt_name (Γ := [.im (pv K box), .im (pv K t356), .im (pv K z351.1), .im (pv K z351.2.1), .no, .no]) (i := 4) (Γ' := [.im (pv K box), .im (pv K t356), .im (pv K z351.1), .im (pv K z351.2.1), .im (pv K a362), .no]) rfl rfl)) fun a362 t356 => (rp_post (f := fun t377 => t377) (rp_if (Γ' := fun t377 (s : (Sto K)) => [.im (pv K box), .im (pv K t377), .im (pv K z351.1), .im (pv K z351.2.1), .im (pv K a362), .no]) (tm_and (tm_test (em_opr (g := fun (u : Int) (v : Int) => decide (v < u)) (em_cbV (f := fun xs : (List Int) => ((xs.length : Nat) : Int)) (ev_ref (em_dget (em_pure fun _ => (ep_var rfl)) (em_pure fun _ => ep_str))) fun _ => c_lenL) (fun _ => (ep_int (K := K))) fun _ => o_gt)) (tm_or (tm_pure fun _ => (tp_test (ep_op (ep_var rfl) (ep_int (K := K)) o_eq))) (tm_test (em_opr (g := fun (u : Int) (v : Int) => decide (v < u)) (em_of_eo (eo_callS (f := fun (z372 : Ref × Int × Unit) => (z372.1, z372.2.1)) (am_cons (em_pure fun _ => (ep_var rfl)) (am_cons (em_pure fun _ => (ep_int (K := K))) am_nil)) (fun _ _ => rfl) fun _ _ => rfl)) (fun _ => (ep_int (K := K))) fun _ => o_gt)))) (rp_seq (rp_asg (Γ := fun (s : (Sto K)) => [.im (pv K box), .im (pv K t356), .im (pv K z351.1), .im (pv K z351.2.1), .im (pv K a362), .no]) (i := 5) (Γ' := fun at_386 (s : (Sto K)) => [.im (pv K box), .im (pv K t356), .im (pv K z351.1), .im (pv K z351.2.1), .im (pv K a362), .im (pv K at_386)]) (em_of_eo (eo_callS (f := fun (z385 : Ref × Int × Unit) => (z385.1, z385.2.1)) (am_cons (em_pure fun _ => (ep_var rfl)) (am_cons (em_cbV (f := fun xs : (List Int) => ((xs.length : Nat) : Int)) (ev_ref (em_dget (em_pure fun _ => (ep_var rfl)) (em_pure fun _ => ep_str))) fun _ => c_lenL) am_nil)) (fun _ _ => rfl) fun _ _ => rfl)) (fun _ => rfl) fun _ _ => rfl) fun at_386 => (rp_post (f := fun u_395 => t356) (rp_dput (em_new (eo_cat (em_ownL (eo_slV (ev_ref (em_dget (em_pure fun _ => (ep_var rfl)) (em_pure fun _ => ep_str))) (fun _ => po_no) (fun _ => po_i (ep_var rfl)))) (em_ownL (eo_slV (ev_ref (em_dget (em_pure fun _ => (ep_var rfl)) (em_pure fun _ => ep_str))) (fun _ => po_i (ep_op (ep_var rfl) (ep_int (K := K)) o_add)) (fun _ => po_no)))) fun _ _ => rfl) (em_pure fun _ => (ep_var rfl)) (em_pure fun _ => ep_str) fun _ _ => rfl) fun u_395 s => (.cons (.rfl _) (.cons (.rfl _) (.cons (.rfl _) (.cons (.rfl _) (.cons (.rfl _) (.cons (.no _) .nil)))))))) (rp_next (x := t356) fun s => (.cons (.rfl _) (.cons (.rfl _) (.cons (.rfl _) (.cons (.rfl _) (.cons (.rfl _) (.cons (.rfl _) .nil)))))))) fun t377 s => (.cons (.rfl _) (.cons (.rfl _) (.cons (.rfl _) (.cons (.rfl _) (.cons (.no _) (.cons (.rfl _) .nil)))))))) fun t399 s => (.cons (.no _) (.cons (.no _) (.cons (.no _) (.cons (.no _) (.cons (.rfl _) (.cons (.rfl _) .nil))))))))))) h⟩
theorem ok__law_losses {f : Addr} {fd : FuncData} (F : FnP K "_law_losses" (top 34) f fd) (hg : mg "_law_losses" = some (.ref f)) (b_len : mg "len" = none) (b_range : mg "range" = none) (C__law_take : Cal P w K mg base 1 "_law_take" ["box", "many"] (sp__law_take K)) : Cal P w K mg base 2 "_law_losses" ["box", "world"] (sp__law_losses K) := ⟨f, fd, fo__law_losses F b_len b_range C__law_take, hg, F.kp, F.bindsN fun _ _ _ _ _ _ us hl => match us, hl with | [_, _], _ => rfl⟩
def m__law_written (world : Ref) (writes : (List (Int × Int))) : Mn (Sto K) Unit :=
  (mb (mb (mp writes) fun xs => forP xs () fun a401 (t400 : Unit) =>
    (mb (mb (mp a401.2) fun (x_405 : Int) => mb (mb (mp world) fun r402 => mb (mp ("view" : Str)) fun i403 => mb (mldD r402) fun xs => mo ((getP xs (Ky.key i403)).bind (PyT.dec (α := Ref)))) fun r406 => mb (mp a401.1) fun i407 => mb (mldL r406) fun xs => mb (mo (ixN xs.length i407)) fun k => mput r406 (.lst (xs.set k (PyT.enc x_405)))) fun u_404 => mp ())) fun _ => mp ())
abbrev sp__law_written (K : PySem.W.Frag) : Sp := Prom (rIm K) (S := (Sto K)) (fun i : Ref × (List (Int × Int)) => [.im (pv K i.1), .im (pv K i.2)]) fun i => m__law_written i.1 i.2
theorem len__law_written : ∀ vs H Q E, sp__law_written K vs H Q E → vs.length = 2 := prom_len (S := (Sto K)) (Ret := (rIm K)) (As := fun i : Ref × (List (Int × Int)) => [.im (pv K i.1), .im (pv K i.2)]) (m := fun i => m__law_written i.1 i.2) fun _ => rfl
theorem sc__law_written : FnScope ["world", "writes", "index", "content"] ["world", "writes"] (defScope (top 35)) := ⟨rfl, rfl, rfl, by decide +kernel, rfl, by decide +kernel, by decide +kernel⟩
theorem fo__law_written {f : Addr} {fd : FuncData} (F : FnP K "_law_written" (top 35) f fd) : FnOk P w K mg base CX0 1 f fd ["world", "writes"] (sp__law_written K) := by
  refine F.ok sc__law_written (len__law_written (K := K)) (fun cdv A outer s H vs Q E hr h => ?_)
  have hl : vs.length = 2 := len__law_written (K := K) vs H Q E h
  match vs, hl, h with
  | [v0, v1], _, h => exact ⟨_, PSs.nox ((pss_one (ps_for PassesOwn.never rfl (pi_list (L2.pv 1)) (pg_tup (n := 2) rfl (pgs_cons (pg_name (i := 2) sc__law_written.nd rfl (Or.inl rfl)) (pgs_cons (pg_name (i := 3) sc__law_written.nd rfl (Or.inl rfl)) pgs_nil))) (pss_one (ps_asg (L2.pv 3) (pg_sub (pe_dget (hu1 hr) (L2.pv 0) pe_str (fun _ _ => rfl)) (L2.pv 2) set_list)))))), prom_ok (n := 2) (S := (Sto K)) (Ret := (rIm K)) (As := fun i : Ref × (List (Int × Int)) => [.im (pv K i.1), .im (pv K i.2)]) (m := fun i => m__law_written i.1 i.2) 2 (fun _ => rfl) rfl (fun (world, writes) => (show RN (rIm K) _ (fun (s : (Sto K)) => [.im (pv K world), .im (pv K writes), .no, .no]) (m__law_written world writes) (fun (s : (Sto K)) => [.no, .no, .no, .no]) from ((rn_last (rp_for (ΓL := fun (t400 : Unit) (s : (Sto K)) => [.im (pv K world), .im (pv K writes), .no, .no]) (Γx := fun (a401 : (Int × Int)) (t400 : Unit) (s : (Sto K)) => [.im (pv K world), .im (pv K writes), .im (pv K a401.1), .im (pv K a401.2)]) (im_list fun _ => (ep_var rfl)) (fun s => (.cons (.rfl _) (.cons (.rfl _) (.cons (.rfl _) (.cons (.rfl _) .nil))))) (fun a401 t400 s => (gt_2 (gt_name (Γ := [.im (pv K world), .im (pv K writes), .no, .no]) (i := 2) (Γ' := [.im (pv K world), .im (pv K writes), .im (pv K a401.1), .no]) rfl rfl) (gt_name (Γ := [.im (pv K world), .im (pv K writes), .im (pv K a401.1), .no]) (i := 3) (Γ' := [.im (pv K world), .im (pv K writes), .im (pv K a401.1), .im (pv K a401.2)]) rfl rfl))) fun a401 t400 => (rp_post (f := fun u_404 => ()) (rp_setRM (em_pure fun _ => (ep_var rfl)) (em_dget (em_pure fun _ => (ep_var rfl)) (em_pure fun _ => ep_str)) (em_pure fun _ => (ep_var rfl)) fun _ _ => rfl) fun u_404 s => (.cons (.rfl _) (.cons (.rfl _) (.cons (.no _) (.cons (.no _) .nil)))))) fun t408 s => (.cons (.no _) (.cons (.no _) (.cons (.rfl _) (.cons (.rfl _) .nil)))))))) h⟩
theorem ok__law_written {f : Addr} {fd : FuncData} (F : FnP K "_law_written" (top 35) f fd) (hg : mg "_law_written" = some (.ref f)) : Cal P w K mg base 1 "_law_written" ["world", "writes"] (sp__law_written K) := ⟨f, fd, fo__law_written F, hg, F.kp, F.bindsN fun _ _ _ _ _ _ us hl => match us, hl with | [_, _], _ => rfl⟩
def m__law_opened (box : Ref) (world : Ref) (u_ : Int) (pair : (List Int)) : Mn (Sto K) Bool :=
  (mb (mb (mb (mb (mb (mb (mb (mp box) fun x_412 => mb (mb (mp ((3 : Int) : Int)) fun x_410 => mb (mp ()) fun z411 => mp (x_410, z411)) fun z413 => mp (x_412, z413)) fun z414 => (m__law_take z414.1 z414.2.1)) fun y416 => mp ((1 : Int) + y416)) fun x_417 => mb (mp ()) fun z418 => mp (x_417, z418)) fun z419 => mc (b62 z419.1) (rng 0 z419.1.toNat)) fun xs => forC (β := Empty) xs () fun a420 (t409 : Unit) =>
    (mb (mb (mb (mb (mp box) fun x_427 => mb (mb (mp world) fun x_425 => mb (mb (mp u_) fun x_423 => mb (mb (mp pair) fun x_421 => mb (mp ()) fun z422 => mp (x_421, z422)) fun z424 => mp (x_423, z424)) fun z426 => mp (x_425, z426)) fun z428 => mp (x_427, z428)) fun z429 => (m__law_told_right z429.1 z429.2.1 z429.2.2.1 z429.2.2.2.1)) fun b430 => mp (!b430)) fun b => mi b
      (mb (mp false) fun x => mp (.rt x))
      (mb (mb (mb (mb (mp world) fun r431 => mb (mp ("view" : Str)) fun i432 => mb (mldD r431) fun xs => mo ((getP xs (Ky.key i432)).bind (PyT.dec (α := Ref)))) fun x_433 => mb (mp ()) fun z434 => mp (x_433, z434)) fun z435 => (m__law_reading z435.1)) fun w_436 =>
    (mb (mb (mp (!decide (w_436.b = ([] : (List (Int × Int)))))) fun b => mi b
    (mb (mb (mb (mb (mp box) fun x_440 => mb (mb (mp (((w_436.b.length : Nat) : Int) : Int)) fun x_438 => mb (mp ()) fun z439 => mp (x_438, z439)) fun z441 => mp (x_440, z441)) fun z442 => (m__law_take z442.1 z442.2.1)) fun x_451 => mb (mb (mb (mb (mp box) fun x_445 => mb (mb (mp false) fun x_443 => mb (mp ()) fun z444 => mp (x_443, z444)) fun z446 => mp (x_445, z446)) fun z447 => (m__law_content z447.1 z447.2.1)) fun x_449 => mb (mp ()) fun z450 => mp (x_449, z450)) fun z452 => mp (x_451, z452)) fun z448 =>
    (mb (mb (mb (mp world) fun x_468 => mb (mb (mb (mb (mb (mb (mb (mb (mo (atI w_436.b z448.1)) fun x_455 => mp x_455.1) fun x_458 => mb (mb (mp z448.2.1) fun x_456 => mb (mp ()) fun z457 => mp (x_456, z457)) fun z459 => mp (x_458, z459)) fun z460 => mp (z460.1, z460.2.1)) fun x_461 => mb (mp ()) fun z462 => mp (x_461, z462)) fun z463 => mp ([z463.1] : (List (Int × Int)))) fun y465 => mc (lenOk ((cutL w_436.b none (some z448.1)).length + y465.length)) ((cutL w_436.b none (some z448.1)) ++ y465)) fun x_466 => mb (mp ()) fun z467 => mp (x_466, z467)) fun z469 => mp (x_468, z469)) fun z470 => (m__law_written z470.1 z470.2.1)) fun u_471 => mp ()))
    (mp ())) fun t437 =>
    (mb (mb (mb (mb (mp box) fun x_474 => mb (mb (mp world) fun x_472 => mb (mp ()) fun z473 => mp (x_472, z473)) fun z475 => mp (x_474, z475)) fun z476 => (m__law_losses z476.1 z476.2.1)) fun u_477 => mp ()) fun x => mp (.nx x)))))) (ctk (fun t478 => (mb (mb (mb (mb (mp box) fun x_485 => mb (mb (mp world) fun x_483 => mb (mb (mp u_) fun x_481 => mb (mb (mp pair) fun x_479 => mb (mp ()) fun z480 => mp (x_479, z480)) fun z482 => mp (x_481, z482)) fun z484 => mp (x_483, z484)) fun z486 => mp (x_485, z486)) fun z487 => (m__law_told_right z487.1 z487.2.1 z487.2.2.1 z487.2.2.2.1)) fun b488 => mp (!b488)) fun b => mi b
    (mp false)
    (mb (mb (mb (mb (mp world) fun r489 => mb (mp ("view" : Str)) fun i490 => mb (mldD r489) fun xs => mo ((getP xs (Ky.key i490)).bind (PyT.dec (α := Ref)))) fun x_491 => mb (mp ()) fun z492 => mp (x_491, z492)) fun z493 => (m__law_reading z493.1)) fun w_494 =>
  (mb (mb (mb (mp world) fun x_497 => mb (mb (mp w_494.b) fun x_495 => mb (mp ()) fun z496 => mp (x_495, z496)) fun z498 => mp (x_497, z498)) fun z499 => (m__law_written z499.1 z499.2.1)) fun u_500 =>
  (mb (mb (mp w_494.a) fun (x_502 : Int) => mb (mp world) fun r503 => mb (mp ("value" : Str)) fun i504 => mb (mldD r503) fun xs => mb (mc (dicOk xs.length) ()) fun _ => mput r503 (.dic (putP xs (Ky.key i504) (PyT.enc x_502)))) fun u_501 =>
  (mp true)))))) fun _ => mbad))
abbrev sp__law_opened (K : PySem.W.Frag) : Sp := Prom (rIm K) (S := (Sto K)) (fun i : Ref × Ref × Int × (List Int) => [.im (pv K i.1), .im (pv K i.2.1), .im (pv K i.2.2.1), .im (pv K i.2.2.2)]) fun i => m__law_opened i.1 i.2.1 i.2.2.1 i.2.2.2
theorem len__law_opened : ∀ vs H Q E, sp__law_opened K vs H Q E → vs.length = 4 := prom_len (S := (Sto K)) (Ret := (rIm K)) (As := fun i : Ref × Ref × Int × (List Int) => [.im (pv K i.1), .im (pv K i.2.1), .im (pv K i.2.2.1), .im (pv K i.2.2.2)]) (m := fun i => m__law_opened i.1 i.2.1 i.2.2.1 i.2.2.2) fun _ => rfl
theorem sc__law_opened : FnScope ["box", "world", "u", "pair", "turn", "value", "writes", "stop", "torn"] ["box", "world", "u", "pair"] (defScope (top 36)) := ⟨rfl, rfl, rfl, by decide +kernel, rfl, by decide +kernel, by decide +kernel⟩
theorem fo__law_opened {f : Addr} {fd : FuncData} (F : FnP K "_law_opened" (top 36) f fd) (b_len : mg "len" = none) (b_range : mg "range" = none) (C__law_take : Cal P w K mg base 1 "_law_take" ["box", "many"] (sp__law_take K)) (C__law_told_right : CalG P w K mg base 7 "_law_told_right" ["box", "world", "u", "pair"] (sp__law_told_right K)) (C__law_reading : Cal P w K mg base 2 "_law_reading" ["view"] (sp__law_reading K)) (C__law_content : Cal P w K mg base 2 "_law_content" ["box", "great"] (sp__law_content K)) (C__law_written : Cal P w K mg base 1 "_law_written" ["world", "writes"] (sp__law_written K)) (C__law_losses : Cal P w K mg base 2 "_law_losses" ["box", "world"] (sp__law_losses K)) : FnG P w K mg base CX0 8 f fd ["box", "world", "u", "pair"] (sp__law_opened K) := by
  obtain ⟨f__law_take, fd__law_take, G__law_take, g__law_take, kp__law_take, bi__law_take⟩ := C__law_take.ex
  obtain ⟨f__law_told_right, fd__law_told_right, G__law_told_right, g__law_told_right, kp__law_told_right, bi__law_told_right⟩ := C__law_told_right.ex
  obtain ⟨f__law_reading, fd__law_reading, G__law_reading, g__law_reading, kp__law_reading, bi__law_reading⟩ := C__law_reading.ex
  obtain ⟨f__law_content, fd__law_content, G__law_content, g__law_content, kp__law_content, bi__law_content⟩ := C__law_content.ex
  obtain ⟨f__law_written, fd__law_written, G__law_written, g__law_written, kp__law_written, bi__law_written⟩ := C__law_written.ex
  obtain ⟨f__law_losses, fd__law_losses, G__law_losses, g__law_losses, kp__law_losses, bi__law_losses⟩ := C__law_losses.ex
  refine okG F sc__law_opened (len__law_opened (K := K)) (fun cdv A outer s H vs Q E hgd hr h => ?_)
  have hl : vs.length = 4 := len__law_opened (K := K) vs H Q E h
  match vs, hl, h with
  | [v0, v1, v2, v3], _, h => exact ⟨_, PSs.nox ((pss_cons (ps_for PassesOwn.never rfl (pi_range1 rfl b_range (pa_cons (pe_op op_add pe_int (pe_call G__law_take (hr.mono (Nat.le_of_ble_eq_true rfl)) rfl g__law_take kp__law_take bi__law_take .nil pass0 (pa_cons (L2.pv 0) (pa_cons pe_int pa_nil)))) pa_nil)) (pg_name (i := 4) sc__law_opened.nd rfl (Or.inl rfl)) (pss_cons (ps_if (pt_not (pt_val (pe_callG G__law_told_right hgd (hr.mono (Nat.le_of_ble_eq_true rfl)) rfl g__law_told_right kp__law_told_right bi__law_told_right .nil pass0 (pa_cons (L2.pv 0) (pa_cons (L2.pv 1) (pa_cons (L2.pv 2) (pa_cons (L2.pv 3) pa_nil))))))) (pss_one (ps_ret pe_bl)) pss_nil) (pss_cons (ps_asg (pe_call G__law_reading (hr.mono (Nat.le_of_ble_eq_true rfl)) rfl g__law_reading kp__law_reading bi__law_reading .nil pass0 (pa_cons (pe_dget (hu1 hr) (L2.pv 1) pe_str (fun _ _ => rfl)) pa_nil)) (pg_lst (n := 2) rfl (pgs_cons (pg_name (i := 5) sc__law_opened.nd rfl (Or.inl rfl)) (pgs_cons (pg_name (i := 6) sc__law_opened.nd rfl (Or.inl rfl)) pgs_nil)))) (pss_cons (ps_if (pt_cmpR (op_neD (hu64 hr)) (L2.pv 6) (pe_lst pa_nil) (nomark _)) (pss_cons (ps_par (i := 7) (j := 8) rfl sc__law_opened.nd rfl rfl (by decide) rfl rfl (pa_cons (pe_call G__law_take (hr.mono (Nat.le_of_ble_eq_true rfl)) rfl g__law_take kp__law_take bi__law_take .nil pass0 (pa_cons (L2.pv 0) (pa_cons (pe_callB call_len_seq rfl b_len bt_len (pa_cons (L2.pv 6) pa_nil)) pa_nil))) (pa_cons (pe_call G__law_content (hr.mono (Nat.le_of_ble_eq_true rfl)) rfl g__law_content kp__law_content bi__law_content .nil pass0 (pa_cons (L2.pv 0) (pa_cons pe_bl pa_nil))) pa_nil)) rfl) (pss_one (ps_expr (pe_call G__law_written (hr.mono (Nat.le_of_ble_eq_true rfl)) rfl g__law_written kp__law_written bi__law_written .nil pass0 (pa_cons (L2.pv 1) (pa_cons (pe_op op_cat (pe_slice sl_list (L2.pv 6) po_none (po_some (L2.pv 7))) (pe_lst (pa_cons (pe_tup (pa_cons (pe_ix ix_tup (pe_ix ix_list (L2.pv 6) (L2.pv 7) (fun _ _ => rfl)) pe_int (fun _ _ => rfl)) (pa_cons (L2.pv 8) pa_nil))) pa_nil))) pa_nil)))))) pss_nil) (pss_one (ps_expr (pe_call G__law_losses (hr.mono (Nat.le_of_ble_eq_true rfl)) rfl g__law_losses kp__law_losses bi__law_losses .nil pass0 (pa_cons (L2.pv 0) (pa_cons (L2.pv 1) pa_nil))))))))) (pss_cons (ps_if (pt_not (pt_val (pe_callG G__law_told_right hgd (hr.mono (Nat.le_of_ble_eq_true rfl)) rfl g__law_told_right kp__law_told_right bi__law_told_right .nil pass0 (pa_cons (L2.pv 0) (pa_cons (L2.pv 1) (pa_cons (L2.pv 2) (pa_cons (L2.pv 3) pa_nil))))))) (pss_one (ps_ret pe_bl)) pss_nil) (pss_cons (ps_asg (pe_call G__law_reading (hr.mono (Nat.le_of_ble_eq_true rfl)) rfl g__law_reading kp__law_reading bi__law_reading .nil pass0 (pa_cons (pe_dget (hu1 hr) (L2.pv 1) pe_str (fun _ _ => rfl)) pa_nil)) (pg_lst (n := 2) rfl (pgs_cons (pg_name (i := 5) sc__law_opened.nd rfl (Or.inl rfl)) (pgs_cons (pg_name (i := 6) sc__law_opened.nd rfl (Or.inl rfl)) pgs_nil)))) (pss_cons (ps_expr (pe_call G__law_written (hr.mono (Nat.le_of_ble_eq_true rfl)) rfl g__law_written kp__law_written bi__law_written .nil pass0 (pa_cons (L2.pv 1) (pa_cons (L2.pv 6) pa_nil)))) (pss_cons (ps_dput (hu1 hr) (L2.pv 1) pe_str (L2.pv 5) rfl) (pss_one (ps_ret pe_bl)))))))), prom_ok (n := 4) (S := (Sto K)) (Ret := (rIm K)) (As := fun i : Ref × Ref × Int × (List Int) => [.im (pv K i.1), .im (pv K i.2.1), .im (pv K i.2.2.1), .im (pv K i.2.2.2)]) (m := fun i => m__law_opened i.1 i.2.1 i.2.2.1 i.2.2.2) 5 (fun _ => rfl) rfl (fun (box, world, u_, pair) => (show RN (rIm K) _ (fun (s : (Sto K)) => [.im (pv K box), .im (pv K world), .im (pv K u_), .im (pv K pair), .no, .no, .no, .no, .no]) (m__law_opened box world u_ pair) (fun (s : (Sto K)) => [.no, .no, .no, .no, .no, .no, .no, .no, .no]) from (rn_of (rt_seqC (rc_for (β := Empty) (Γb := fun b _ => nomatch b) (Γr := (fun (s : (Sto K)) => [.no, .no, .no, .no, .no, .no, .no, .no, .no])) (ΓL := fun (t409 : Unit) (s : (Sto K)) => [.im (pv K box), .im (pv K world), .im (pv K u_), .im (pv K pair), .no, .no, .no, .no, .no]) (Γx := fun (a420 : Int) (t409 : Unit) (s : (Sto K)) => [.im (pv K box), .im (pv K world), .im (pv K u_), .im (pv K pair), .im (pv K a420), .no, .no, .no, .no]) (im_rng1M (f := fun (z419 : Int × Unit) => z419.1) (am_cons (em_opl (g := fun (u : Int) (v : Int) => (u + v)) (fun _ => (ep_int (K := K))) (em_of_eo (eo_callS (f := fun (z414 : Ref × Int × Unit) => (z414.1, z414.2.1)) (am_cons (em_pure fun _ => (ep_var rfl)) (am_cons (em_pure fun _ => (ep_int (K := K))) am_nil)) (fun _ _ => rfl) fun _ _ => rfl)) fun _ => o_add) am_nil)) (fun s => (.cons (.rfl _) (.cons (.rfl _) (.cons (.rfl _) (.cons (.rfl _) (.cons (.rfl _) (.cons (.rfl _) (.cons (.rfl _) (.cons (.rfl _) (.cons (.rfl _) .nil)))))))))) (fun a420 t409 s => (gt_name (Γ := [.im (pv K box), .im (pv K world), .im (pv K u_), .im (pv K pair), .no, .no, .no, .no, .no]) (i := 4) (Γ' := [.im (pv K box), .im (pv K world), .im (pv K u_), .im (pv K pair), .im (pv K a420), .no, .no, .no, .no]) rfl rfl)) fun a420 t409 => (rc_ifr (tm_not (tm_B (em_of_eo (eo_callS (f := fun (z429 : Ref × Ref × Int × (List Int) × Unit) => (z429.1, z429.2.1, z429.2.2.1, z429.2.2.2.1)) (am_cons (em_pure fun _ => (ep_var rfl)) (am_cons (em_pure fun _ => (ep_var rfl)) (am_cons (em_pure fun _ => (ep_var rfl)) (am_cons (em_pure fun _ => (ep_var rfl)) am_nil)))) (fun _ _ => rfl) fun _ _ => rfl)))) (rx_ret (rt_ret (em_pure fun _ => (ep_bl (K := K))) fun s => (.cons (.no _) (.cons (.no _) (.cons (.no _) (.cons (.no _) (.cons (.no _) (.cons (.rfl _) (.cons (.rfl _) (.cons (.rfl _) (.cons (.rfl _) .nil))))))))))) (rc_seqP (rp_unp2h (Γ := fun (s : (Sto K)) => [.im (pv K box), .im (pv K world), .im (pv K u_), .im (pv K pair), .im (pv K a420), .no, .no, .no, .no]) (Γ' := fun w_436 (s : (Sto K)) => [.im (pv K box), .im (pv K world), .im (pv K u_), .im (pv K pair), .im (pv K a420), .im (pv K w_436.a), .im (pv K w_436.b), .no, .no]) [5, 6] (em_of_eo (eo_callS (f := fun (z435 : Ref × Unit) => z435.1) (am_cons (em_dget (em_pure fun _ => (ep_var rfl)) (em_pure fun _ => ep_str)) am_nil) (fun _ _ => rfl) fun _ _ => rfl)) (fun _ => asg_ok rfl) fun _ _ => rfl) fun w_436 => (rc_seqP (rp_if (Γ' := fun t437 (s : (Sto K)) => [.im (pv K box), .im (pv K world), .im (pv K u_), .im (pv K pair), .im (pv K a420), .im (pv K w_436.a), .im (pv K w_436.b), .no, .no]) (tm_pure fun _ => (tp_test (ep_op (ep_var rfl) (ep_lst (xs := ([] : (List (Int × Int)))) (hl := Nat.le_of_ble_eq_true rfl) ap_nil) (o_neDt (Nat.le_of_ble_eq_true rfl))))) (rp_seq (rp_asg2 (Γ' := fun (z448 : Int × Int × Unit) (s : (Sto K)) => [.im (pv K box), .im (pv K world), .im (pv K u_), .im (pv K pair), .im (pv K a420), .im (pv K w_436.a), .im (pv K w_436.b), .im (pv K z448.1), .im (pv K z448.2.1)]) (ao_m (em_of_eo (eo_callS (f := fun (z442 : Ref × Int × Unit) => (z442.1, z442.2.1)) (am_cons (em_pure fun _ => (ep_var rfl)) (am_cons (em_pure fun _ => (ep_cb (ap_cons (ep_var rfl) ap_nil) c_lenL)) am_nil)) (fun _ _ => rfl) fun _ _ => rfl)) (ao_m (em_of_eo (eo_callS (f := fun (z447 : Ref × Bool × Unit) => (z447.1, z447.2.1)) (am_cons (em_pure fun _ => (ep_var rfl)) (am_cons (em_pure fun _ => (ep_bl (K := K))) am_nil)) (fun _ _ => rfl) fun _ _ => rfl)) ao_nil)) (fun _ => asg_ok rfl) (fun _ => rfl) (fun _ => rfl) fun _ _ => rfl) fun z448 => (rp_post (f := fun u_471 => ()) (rp_drop (em_of_eo (eo_callS (f := fun (z470 : Ref × (List (Int × Int)) × Unit) => (z470.1, z470.2.1)) (am_cons (em_pure fun _ => (ep_var rfl)) (am_cons (em_oplC (g := fun (u : (List (Int × Int))) (v : (List (Int × Int))) => (u ++ v)) (c := fun (u : (List (Int × Int))) (v : (List (Int × Int))) => lenOk (u.length + v.length)) (fun _ => (ep_sl (ep_var rfl) po_no (po_i (ep_var rfl)))) (em_lst (f := fun (z463 : (Int × Int) × Unit) => ([z463.1] : (List (Int × Int)))) (hl := fun _ => Nat.le_of_ble_eq_true rfl) (am_cons (em_tup (f := fun (z460 : Int × Int × Unit) => (z460.1, z460.2.1)) (am_cons (em_opr (g := fun (u : (Int × Int)) (_ : Int) => u.1) (em_ixLp (fun _ => (ep_var rfl)) fun _ => (ep_var rfl)) (fun _ => (ep_int (K := K))) fun _ => pr2_0) (am_cons (em_pure fun _ => (ep_var rfl)) am_nil)) fun z460 => tup2) am_nil)) fun _ h => (o_cat h)) am_nil)) (fun _ _ => rfl) fun _ _ => rfl))) fun u_471 s => (.cons (.rfl _) (.cons (.rfl _) (.cons (.rfl _) (.cons (.rfl _) (.cons (.rfl _) (.cons (.rfl _) (.cons (.rfl _) (.cons (.no _) (.cons (.no _) .nil))))))))))) (rp_next (x := ()) fun s => (.cons (.rfl _) (.cons (.rfl _) (.cons (.rfl _) (.cons (.rfl _) (.cons (.rfl _) (.cons (.rfl _) (.cons (.rfl _) (.cons (.rfl _) (.cons (.rfl _) .nil))))))))))) fun t437 => (rc_of_p (rp_post (f := fun u_477 => ()) (rp_drop (em_of_eo (eo_callS (f := fun (z476 : Ref × Ref × Unit) => (z476.1, z476.2.1)) (am_cons (em_pure fun _ => (ep_var rfl)) (am_cons (em_pure fun _ => (ep_var rfl)) am_nil)) (fun _ _ => rfl) fun _ _ => rfl))) fun u_477 s => (.cons (.rfl _) (.cons (.rfl _) (.cons (.rfl _) (.cons (.rfl _) (.cons (.no _) (.cons (.no _) (.cons (.no _) (.cons (.rfl _) (.cons (.rfl _) .nil))))))))))))))) fun t478 => (rt_ifr (tm_not (tm_B (em_of_eo (eo_callS (f := fun (z487 : Ref × Ref × Int × (List Int) × Unit) => (z487.1, z487.2.1, z487.2.2.1, z487.2.2.2.1)) (am_cons (em_pure fun _ => (ep_var rfl)) (am_cons (em_pure fun _ => (ep_var rfl)) (am_cons (em_pure fun _ => (ep_var rfl)) (am_cons (em_pure fun _ => (ep_var rfl)) am_nil)))) (fun _ _ => rfl) fun _ _ => rfl)))) (rt_ret (em_pure fun _ => (ep_bl (K := K))) fun s => (.cons (.no _) (.cons (.no _) (.cons (.no _) (.cons (.no _) (.cons (.rfl _) (.cons (.rfl _) (.cons (.rfl _) (.cons (.rfl _) (.cons (.rfl _) .nil)))))))))) (rt_seq (rp_unp2h (Γ := fun (s : (Sto K)) => [.im (pv K box), .im (pv K world), .im (pv K u_), .im (pv K pair), .no, .no, .no, .no, .no]) (Γ' := fun w_494 (s : (Sto K)) => [.im (pv K box), .im (pv K world), .im (pv K u_), .im (pv K pair), .no, .im (pv K w_494.a), .im (pv K w_494.b), .no, .no]) [5, 6] (em_of_eo (eo_callS (f := fun (z493 : Ref × Unit) => z493.1) (am_cons (em_dget (em_pure fun _ => (ep_var rfl)) (em_pure fun _ => ep_str)) am_nil) (fun _ _ => rfl) fun _ _ => rfl)) (fun _ => asg_ok rfl) fun _ _ => rfl) fun w_494 => (rt_seq (rp_drop (em_of_eo (eo_callS (f := fun (z499 : Ref × (List (Int × Int)) × Unit) => (z499.1, z499.2.1)) (am_cons (em_pure fun _ => (ep_var rfl)) (am_cons (em_pure fun _ => (ep_var rfl)) am_nil)) (fun _ _ => rfl) fun _ _ => rfl))) fun u_500 => (rt_seq (rp_dput (em_pure fun _ => (ep_var rfl)) (em_pure fun _ => (ep_var rfl)) (em_pure fun _ => ep_str) fun _ _ => rfl) fun u_501 => (rt_ret (em_pure fun _ => (ep_bl (K := K))) fun s => (.cons (.no _) (.cons (.no _) (.cons (.no _) (.cons (.no _) (.cons (.rfl _) (.cons (.no _) (.cons (.no _) (.cons (.rfl _) (.cons (.rfl _) .nil)))))))))))))))))) h⟩
theorem ok__law_opened {f : Addr} {fd : FuncData} (F : FnP K "_law_opened" (top 36) f fd) (hg : mg "_law_opened" = some (.ref f)) (b_len : mg "len" = none) (b_range : mg "range" = none) (C__law_take : Cal P w K mg base 1 "_law_take" ["box", "many"] (sp__law_take K)) (C__law_told_right : CalG P w K mg base 7 "_law_told_right" ["box", "world", "u", "pair"] (sp__law_told_right K)) (C__law_reading : Cal P w K mg base 2 "_law_reading" ["view"] (sp__law_reading K)) (C__law_content : Cal P w K mg base 2 "_law_content" ["box", "great"] (sp__law_content K)) (C__law_written : Cal P w K mg base 1 "_law_written" ["world", "writes"] (sp__law_written K)) (C__law_losses : Cal P w K mg base 2 "_law_losses" ["box", "world"] (sp__law_losses K)) : CalG P w K mg base 8 "_law_opened" ["box", "world", "u", "pair"] (sp__law_opened K) := ⟨f, fd, fo__law_opened F b_len b_range C__law_take C__law_told_right C__law_reading C__law_content C__law_written C__law_losses, hg, F.kp, F.bindsN fun _ _ _ _ _ _ us hl => match us, hl with | [_, _, _, _], _ => rfl⟩
def m__law_rests (box : Ref) (world : Ref) : Mn (Sto K) Bool :=
  (mb (mb (mb (mp world) fun r505 => mb (mp ("view" : Str)) fun i506 => mb (mldD r505) fun xs => mo ((getP xs (Ky.key i506)).bind (PyT.dec (α := Ref)))) fun x_513 => mb (mb (mb (mb (mb (mp world) fun r507 => mb (mp ("view" : Str)) fun i508 => mb (mldD r507) fun xs => mo ((getP xs (Ky.key i508)).bind (PyT.dec (α := Ref)))) fun r509 => mldT Int r509) fun (xs : (List Int)) => mnew (.lst (xs.map PyT.enc))) fun x_511 => mb (mp ()) fun z512 => mp (x_511, z512)) fun z514 => mp (x_513, z514)) fun z510 =>
  (mb (mb (mb (mb (mb (mb (mp box) fun x_518 => mb (mb (mp ((4 : Int) : Int)) fun x_516 => mb (mp ()) fun z517 => mp (x_516, z517)) fun z519 => mp (x_518, z519)) fun z520 => (m__law_take z520.1 z520.2.1)) fun x_521 => mb (mp ()) fun z522 => mp (x_521, z522)) fun z523 => mc (b62 z523.1) (rng 0 z523.1.toNat)) fun xs => forP xs z510.2.1 fun a524 (t515 : Ref) =>
    (mb (mb (mb (mb (mldT Int t515) fun xs525 => mu (mp (((xs525.length : Nat) : Int) : Int))) fun x_526 => mp (decide ((2 : Int) < x_526))) fun b => mi b
    (mb (mb (mldL t515) fun _ => mb (mb (mb (mp box) fun x_533 => mb (mb (mb (mldT Int t515) fun xs530 => mu (mp (((xs530.length : Nat) : Int) : Int))) fun x_531 => mb (mp ()) fun z532 => mp (x_531, z532)) fun z534 => mp (x_533, z534)) fun z535 => (m__law_take z535.1 z535.2.1)) fun i536 => mb (mldL t515) fun xs537 => mb (mo (if decide (-(2 ^ 63) ≤ i536 ∧ i536 < 2 ^ 63) = true then (ixN xs537.length i536).bind fun k => (xs537[k]?.bind (PyT.dec (α := Int))).map fun x => (x, xs537.eraseIdx k) else none)) fun z538 => mb (mput t515 (.lst z538.2)) fun _ => mp z538.1) fun u_529 => mp t515)
    (mp t515)) fun t528 => mp t528)) fun t539 =>
  (mb (mb (mp (([z510.1, t539] : (List Ref)) : (List Ref))) fun xs => forC (β := Empty) xs () fun a541 (t540 : Unit) =>
    (mb (mb (mb (mb (mb (mb (mb (mb (mb (mldT Int a541) fun xs542 => mu (mp xs542)) fun x => mp (Sv.mk false x)) fun x_543 => mb (mp ()) fun z544 => mp (x_543, z544)) fun z545 => (m_three_told z545.1)) fun x_546 => mb (mp ()) fun z547 => mp (x_546, z547)) fun z548 => mc (rprDok z548.1) (rprD z548.1)) fun x_554 => mb (mb (mb (mb (mp world) fun r549 => mb (mp ("value" : Str)) fun i550 => mb (mldD r549) fun xs => mo ((getP xs (Ky.key i550)).bind (PyT.dec (α := Int)))) fun x_551 => mb (mp ()) fun z552 => mp (x_551, z552)) fun z553 => mc (rprDok z553.1) (rprD z553.1)) fun y555 => mp (!decide (x_554 = y555))) fun b561 => mi b561 (mp true) (mb (mb (mb (mb (mb (mb (mldT Int a541) fun xs556 => mu (mb (mp xs556) fun xs => mp (Tc.mk xs))) fun x => mp (Sv.mk true x.l)) fun x_557 => mb (mp ()) fun z558 => mp (x_557, z558)) fun z559 => (m_three_mending z559.1)) fun r560 => mldT (Int × Int) r560) fun xs => mp ((!decide (xs = (([] : (List (Int × Int))) : (List (Int × Int)))))))) fun b => mi b
      (mb (mp false) fun x => mp (.rt x))
      (mp (.nx ())))) (ctk (fun t562 => (mb (mb (mb (mb (mb (mldT Int z510.1) fun xs563 => mu (mp xs563)) fun x => mp (Sv.mk false x)) fun x_568 => mb (mb (mb (mp world) fun r564 => mb (mp ("value" : Str)) fun i565 => mb (mldD r564) fun xs => mo ((getP xs (Ky.key i565)).bind (PyT.dec (α := Int)))) fun x_566 => mb (mp ()) fun z567 => mp (x_566, z567)) fun z569 => mp (x_568, z569)) fun z570 => (m_three_steps z570.1 z570.2.1)) fun x_571 => mp (decide (x_571 = ([] : (List (Int × Int))))))) fun _ => mbad))))
abbrev sp__law_rests (K : PySem.W.Frag) : Sp := Prom (rIm K) (S := (Sto K)) (fun i : Ref × Ref => [.im (pv K i.1), .im (pv K i.2)]) fun i => m__law_rests i.1 i.2
theorem len__law_rests : ∀ vs H Q E, sp__law_rests K vs H Q E → vs.length = 2 := prom_len (S := (Sto K)) (Ret := (rIm K)) (As := fun i : Ref × Ref => [.im (pv K i.1), .im (pv K i.2)]) (m := fun i => m__law_rests i.1 i.2) fun _ => rfl
theorem sc__law_rests : FnScope ["box", "world", "view", "left", "turn", "part"] ["box", "world"] (defScope (top 37)) := ⟨rfl, rfl, rfl, by decide +kernel, rfl, by decide +kernel, by decide +kernel⟩
theorem fo__law_rests {f : Addr} {fd : FuncData} (F : FnP K "_law_rests" (top 37) f fd) (b_len : mg "len" = none) (b_list : mg "list" = none) (b_range : mg "range" = none) (b_repr : mg "repr" = none) (b_tuple : mg "tuple" = none) (C__law_take : Cal P w K mg base 1 "_law_take" ["box", "many"] (sp__law_take K)) (C_three_told : Cal P w K mg base 6 "three_told" ["view"] (sp_three_told K)) (C_three_mending : Cal P w K mg base 6 "three_mending" ["view"] (sp_three_mending K)) (C_three_steps : Cal P w K mg base 6 "three_steps" ["view", "new"] (sp_three_steps K)) : FnG P w K mg base CX0 7 f fd ["box", "world"] (sp__law_rests K) := by
  obtain ⟨f__law_take, fd__law_take, G__law_take, g__law_take, kp__law_take, bi__law_take⟩ := C__law_take.ex
  obtain ⟨f_three_told, fd_three_told, G_three_told, g_three_told, kp_three_told, bi_three_told⟩ := C_three_told.ex
  obtain ⟨f_three_mending, fd_three_mending, G_three_mending, g_three_mending, kp_three_mending, bi_three_mending⟩ := C_three_mending.ex
  obtain ⟨f_three_steps, fd_three_steps, G_three_steps, g_three_steps, kp_three_steps, bi_three_steps⟩ := C_three_steps.ex
  refine okG F sc__law_rests (len__law_rests (K := K)) (fun cdv A outer s H vs Q E hgd hr h => ?_)
  have hl : vs.length = 2 := len__law_rests (K := K) vs H Q E h
  match vs, hl, h with
  | [v0, v1], _, h => exact ⟨_, PSs.nox ((pss_cons (ps_par (i := 2) (j := 3) rfl sc__law_rests.nd rfl rfl (by decide) rfl rfl (pa_cons (pe_dget (hu1 hr) (L2.pv 1) pe_str (fun _ _ => rfl)) (pa_cons (pe_callTy call_list_of rfl b_list bt_list (pa_cons (pe_dget (hu1 hr) (L2.pv 1) pe_str (fun _ _ => rfl)) pa_nil)) pa_nil)) rfl) (pss_cons (ps_for PassesOwn.never rfl (pi_range1 rfl b_range (pa_cons (pe_call G__law_take (hr.mono (Nat.le_of_ble_eq_true rfl)) rfl g__law_take kp__law_take bi__law_take .nil pass0 (pa_cons (L2.pv 0) (pa_cons pe_int pa_nil))) pa_nil)) (pg_name (i := 4) sc__law_rests.nd rfl (Or.inl rfl)) (pss_one (ps_if (pt_cmpR op_gt (pe_callB call_len_seq rfl b_len bt_len (pa_cons (L2.pv 3) pa_nil)) pe_int (nomark _)) (pss_one (ps_expr (pe_bm PySem.F.plainAttrs_list PySem.F.slot_list_pop PySem.F.type_list_pop mt_popAt (L2.pv 3) (pa_cons (pe_call G__law_take (hr.mono (Nat.le_of_ble_eq_true rfl)) rfl g__law_take kp__law_take bi__law_take .nil pass0 (pa_cons (L2.pv 0) (pa_cons (pe_callB call_len_seq rfl b_len bt_len (pa_cons (L2.pv 3) pa_nil)) pa_nil))) pa_nil)))) pss_nil))) (pss_cons (ps_for PassesOwn.never rfl (pi_list (pe_lst (pa_cons (L2.pv 2) (pa_cons (L2.pv 3) pa_nil)))) (pg_name (i := 5) sc__law_rests.nd rfl (Or.inl rfl)) (pss_one (ps_if (PW.pt (pw_or (pt_cmpR op_ne (pe_callB (cr_reprD hgd (hu66 hr)) rfl b_repr bt_repr (pa_cons (pe_call G_three_told (hr.mono (Nat.le_of_ble_eq_true rfl)) rfl g_three_told kp_three_told bi_three_told .nil pass0 (pa_cons (pe_callTy call_list_of rfl b_list bt_list (pa_cons (L2.pv 5) pa_nil)) pa_nil)) pa_nil)) (pe_callB (cr_reprD hgd (hu66 hr)) rfl b_repr bt_repr (pa_cons (pe_dget (hu1 hr) (L2.pv 1) pe_str (fun _ _ => rfl)) pa_nil)) (nomark _)) (pw_or1 (pt_cmpR (op_neD (hu64 hr)) (pe_call G_three_mending (hr.mono (Nat.le_of_ble_eq_true rfl)) rfl g_three_mending kp_three_mending bi_three_mending .nil pass0 (pa_cons (pe_callTy TC.call_tupF rfl b_tuple bt_tuple (pa_cons (L2.pv 5) pa_nil)) pa_nil)) (pe_lst pa_nil) (nomark _))))) (pss_one (ps_ret pe_bl)) pss_nil))) (pss_one (ps_ret (pe_cmpR (op_eqD (hu64 hr)) (pe_call G_three_steps (hr.mono (Nat.le_of_ble_eq_true rfl)) rfl g_three_steps kp_three_steps bi_three_steps .nil pass0 (pa_cons (pe_callTy call_list_of rfl b_list bt_list (pa_cons (L2.pv 2) pa_nil)) (pa_cons (pe_dget (hu1 hr) (L2.pv 1) pe_str (fun _ _ => rfl)) pa_nil))) (pe_lst pa_nil) (nomark _)))))))), prom_ok (n := 2) (S := (Sto K)) (Ret := (rIm K)) (As := fun i : Ref × Ref => [.im (pv K i.1), .im (pv K i.2)]) (m := fun i => m__law_rests i.1 i.2) 4 (fun _ => rfl) rfl (fun (box, world) => (show RN (rIm K) _ (fun (s : (Sto K)) => [.im (pv K box), .im (pv K world), .no, .no, .no, .no]) (m__law_rests box world) (fun (s : (Sto K)) => [.no, .no, .no, .no, .no, .no]) from (rn_of (rt_seq (rp_asg2 (Γ' := fun (z510 : Ref × Ref × Unit) (s : (Sto K)) => [.im (pv K box), .im (pv K world), .im (pv K z510.1), .im (pv K z510.2.1), .no, .no]) (ao_m (em_dget (em_pure fun _ => (ep_var rfl)) (em_pure fun _ => ep_str)) (ao_m (em_new (eo_listV (ev_ref (em_dget (em_pure fun _ => (ep_var rfl)) (em_pure fun _ => ep_str)))) fun _ _ => rfl) ao_nil)) (fun _ => asg_ok rfl) (fun _ => rfl) (fun _ => rfl) fun _ _ => rfl) fun z510 => (rt_seq (rp_for (ΓL := fun (t515 : Ref) (s : (Sto K)) => [.im (pv K box), .im (pv K world), .im (pv K z510.1), .im (pv K t515), .no, .no]) (Γx := fun (a524 : Int) (t515 : Ref) (s : (Sto K)) => [.im (pv K box), .im (pv K world), .im (pv K z510.1), .im (pv K t515), .im (pv K a524), .no]) (im_rng1M (f := fun (z523 : Int × Unit) => z523.1) (am_cons (em_of_eo (eo_callS (f := fun (z520 : Ref × Int × Unit) => (z520.1, z520.2.1)) (am_cons (em_pure fun _ => (ep_var rfl)) (am_cons (em_pure fun _ => (ep_int (K := K))) am_nil)) (fun _ _ => rfl) fun _ _ => rfl)) am_nil)) (fun s => (.cons (.rfl _) (.cons (.rfl _) (.cons (.rfl _) (.cons (.rfl _) (.cons (.rfl _) (.cons (.rfl _) .nil))))))) (fun a524 t515 s => (gt_name (Γ := [.im (pv K box), .im (pv K world), .im (pv K z510.1), .im (pv K t515), .no, .no]) (i := 4) (Γ' := [.im (pv K box), .im (pv K world), .im (pv K z510.1), .im (pv K t515), .im (pv K a524), .no]) rfl rfl)) fun a524 t515 => (rp_post (f := fun t528 => t528) (rp_if (Γ' := fun t528 (s : (Sto K)) => [.im (pv K box), .im (pv K world), .im (pv K z510.1), .im (pv K t528), .im (pv K a524), .no]) (tm_test (em_opr (g := fun (u : Int) (v : Int) => decide (v < u)) (em_borR (r := t515) (Γ0 := [.im (pv K box), .im (pv K world), .im (pv K z510.1), .im (pv K t515), .im (pv K a524), .no]) (j := 3) (Γ1 := fun xs525 => [.im (pv K box), .im (pv K world), .im (pv K z510.1), .im (pv K xs525), .im (pv K a524), .no]) (fun _ => (.cons (.rfl _) (.cons (.rfl _) (.cons (.rfl _) (.cons (.rfl _) (.cons (.rfl _) (.cons (.rfl _) .nil))))))) rfl rfl (fun _ => rfl) (fun xs525 => (em_pure fun _ => (ep_cb (ap_cons (ep_var rfl) ap_nil) c_lenL))) fun _ => rfl) (fun _ => (ep_int (K := K))) fun _ => o_gt)) (rp_post (f := fun u_529 => t515) (rp_drop (em_popR (r := t515) (fun _ => (ep_var rfl)) (em_of_eo (eo_callS (f := fun (z535 : Ref × Int × Unit) => (z535.1, z535.2.1)) (am_cons (em_pure fun _ => (ep_var rfl)) (am_cons (em_borR (r := t515) (Γ0 := [.im (pv K box), .im (pv K world), .im (pv K z510.1), .im (pv K t515), .im (pv K a524), .no]) (j := 3) (Γ1 := fun xs530 => [.im (pv K box), .im (pv K world), .im (pv K z510.1), .im (pv K xs530), .im (pv K a524), .no]) (fun _ => (.cons (.rfl _) (.cons (.rfl _) (.cons (.rfl _) (.cons (.rfl _) (.cons (.rfl _) (.cons (.rfl _) .nil))))))) rfl rfl (fun _ => rfl) (fun xs530 => (em_pure fun _ => (ep_cb (ap_cons (ep_var rfl) ap_nil) c_lenL))) fun _ => rfl) am_nil)) (fun _ _ => rfl) fun _ _ => rfl)) fun _ _ => rfl)) fun u_529 s => (.cons (.rfl _) (.cons (.rfl _) (.cons (.rfl _) (.cons (.rfl _) (.cons (.rfl _) (.cons (.rfl _) .nil))))))) (rp_next (x := t515) fun s => (.cons (.rfl _) (.cons (.rfl _) (.cons (.rfl _) (.cons (.rfl _) (.cons (.rfl _) (.cons (.rfl _) .nil)))))))) fun t528 s => (.cons (.rfl _) (.cons (.rfl _) (.cons (.rfl _) (.cons (.rfl _) (.cons (.no _) (.cons (.rfl _) .nil)))))))) fun t539 => (rt_seqC (rc_for (β := Empty) (Γb := fun b _ => nomatch b) (Γr := (fun (s : (Sto K)) => [.no, .no, .no, .no, .no, .no])) (ΓL := fun (t540 : Unit) (s : (Sto K)) => [.im (pv K box), .im (pv K world), .im (pv K z510.1), .im (pv K t539), .no, .no]) (Γx := fun (a541 : Ref) (t540 : Unit) (s : (Sto K)) => [.im (pv K box), .im (pv K world), .im (pv K z510.1), .im (pv K t539), .no, .im (pv K a541)]) (im_list fun _ => (ep_lst (xs := ([z510.1, t539] : (List Ref))) (hl := Nat.le_of_ble_eq_true rfl) (ap_cons (ep_var rfl) (ap_cons (ep_var rfl) ap_nil)))) (fun s => (.cons (.rfl _) (.cons (.rfl _) (.cons (.rfl _) (.cons (.rfl _) (.cons (.rfl _) (.cons (.rfl _) .nil))))))) (fun a541 t540 s => (gt_name (Γ := [.im (pv K box), .im (pv K world), .im (pv K z510.1), .im (pv K t539), .no, .no]) (i := 5) (Γ' := [.im (pv K box), .im (pv K world), .im (pv K z510.1), .im (pv K t539), .no, .im (pv K a541)]) rfl rfl)) fun a541 t540 => (rc_if (tm_or (tm_test (em_op (g := fun (u : Str) (v : Str) => (!decide (u = v))) (em_cbC (f := fun (z548 : Int × Unit) => (rprD z548.1)) (g := fun (z548 : Int × Unit) => rprDok z548.1) (am_cons (em_of_eo (eo_callS (f := fun (z545 : (Sv Int) × Unit) => z545.1) (am_cons (em_svL (em_ownL (eo_borR (r := a541) (Γ0 := [.im (pv K box), .im (pv K world), .im (pv K z510.1), .im (pv K t539), .no, .im (pv K a541)]) (j := 5) (Γ1 := fun xs542 => [.im (pv K box), .im (pv K world), .im (pv K z510.1), .im (pv K t539), .no, .im (pv K xs542)]) (fun _ => (.im (.im (.im (.im (.no (.im .nil))))))) (fun _ => (.cons (.rfl _) (.cons (.rfl _) (.cons (.rfl _) (.cons (.rfl _) (.cons (.rfl _) (.cons (.rfl _) .nil))))))) rfl rfl (fun _ => rfl) (fun xs542 => (eo_listL fun _ => ap_cons (ep_var rfl) ap_nil)) fun _ => rfl))) am_nil) (fun _ _ => rfl) fun _ _ => rfl)) am_nil) fun _ h => (c_reprD (Nat.le_of_ble_eq_true rfl) h)) (em_cbC (f := fun (z553 : Int × Unit) => (rprD z553.1)) (g := fun (z553 : Int × Unit) => rprDok z553.1) (am_cons (em_dget (em_pure fun _ => (ep_var rfl)) (em_pure fun _ => ep_str)) am_nil) fun _ h => (c_reprD (Nat.le_of_ble_eq_true rfl) h)) fun _ _ => o_ne)) (tm_test (em_opV (y := (([] : (List (Int × Int))) : (List (Int × Int)))) (f := fun xs : (List (Int × Int)) => (!decide (xs = (([] : (List (Int × Int))) : (List (Int × Int)))))) (ev_ref (em_of_eo (eo_callS (f := fun (z559 : (Sv Int) × Unit) => z559.1) (am_cons (em_svT (em_borRT (r := a541) (Γ0 := [.im (pv K box), .im (pv K world), .im (pv K z510.1), .im (pv K t539), .no, .im (pv K a541)]) (j := 5) (Γ1 := fun xs556 => [.im (pv K box), .im (pv K world), .im (pv K z510.1), .im (pv K t539), .no, .im (pv K xs556)]) (fun _ => (.im (.im (.im (.im (.no (.im .nil))))))) (fun _ => (.cons (.rfl _) (.cons (.rfl _) (.cons (.rfl _) (.cons (.rfl _) (.cons (.rfl _) (.cons (.rfl _) .nil))))))) rfl rfl (fun _ => rfl) (fun xs556 => (em_tupF (em_pure fun _ => (ep_var rfl)))) fun _ => rfl)) am_nil) (fun _ _ => rfl) fun _ _ => rfl))) (fun _ => (ep_lst (xs := ([] : (List (Int × Int)))) (hl := Nat.le_of_ble_eq_true rfl) ap_nil)) fun _ => (o_neDt (Nat.le_of_ble_eq_true rfl))))) (rc_of_x (rx_ret (rt_ret (em_pure fun _ => (ep_bl (K := K))) fun s => (.cons (.no _) (.cons (.no _) (.cons (.no _) (.cons (.no _) (.cons (.rfl _) (.cons (.no _) .nil))))))))) (rc_of_p (rp_next (x := ()) fun s => (.cons (.rfl _) (.cons (.rfl _) (.cons (.rfl _) (.cons (.rfl _) (.cons (.rfl _) (.cons (.no _) .nil)))))))))) fun t562 => (rt_ret (em_opr (g := fun (u : (List (Int × Int))) (v : (List (Int × Int))) => decide (u = v)) (em_ownL (eo_callS (f := fun (z570 : (Sv Int) × Int × Unit) => (z570.1, z570.2.1)) (am_cons (em_svL (em_ownL (eo_borR (r := z510.1) (Γ0 := [.im (pv K box), .im (pv K world), .im (pv K z510.1), .im (pv K t539), .no, .no]) (j := 2) (Γ1 := fun xs563 => [.im (pv K box), .im (pv K world), .im (pv K xs563), .im (pv K t539), .no, .no]) (fun _ => (.im (.im (.im (.im (.no (.no .nil))))))) (fun _ => (.cons (.rfl _) (.cons (.rfl _) (.cons (.rfl _) (.cons (.rfl _) (.cons (.rfl _) (.cons (.rfl _) .nil))))))) rfl rfl (fun _ => rfl) (fun xs563 => (eo_listL fun _ => ap_cons (ep_var rfl) ap_nil)) fun _ => rfl))) (am_cons (em_dget (em_pure fun _ => (ep_var rfl)) (em_pure fun _ => ep_str)) am_nil)) (fun _ _ => rfl) fun _ _ => rfl)) (fun _ => (ep_lst (xs := ([] : (List (Int × Int)))) (hl := Nat.le_of_ble_eq_true rfl) ap_nil)) fun _ => (o_eqDt (Nat.le_of_ble_eq_true rfl))) fun s => (.cons (.no _) (.cons (.no _) (.cons (.no _) (.cons (.no _) (.cons (.rfl _) (.cons (.rfl _) .nil))))))))))))) h⟩
theorem ok__law_rests {f : Addr} {fd : FuncData} (F : FnP K "_law_rests" (top 37) f fd) (hg : mg "_law_rests" = some (.ref f)) (b_len : mg "len" = none) (b_list : mg "list" = none) (b_range : mg "range" = none) (b_repr : mg "repr" = none) (b_tuple : mg "tuple" = none) (C__law_take : Cal P w K mg base 1 "_law_take" ["box", "many"] (sp__law_take K)) (C_three_told : Cal P w K mg base 6 "three_told" ["view"] (sp_three_told K)) (C_three_mending : Cal P w K mg base 6 "three_mending" ["view"] (sp_three_mending K)) (C_three_steps : Cal P w K mg base 6 "three_steps" ["view", "new"] (sp_three_steps K)) : CalG P w K mg base 7 "_law_rests" ["box", "world"] (sp__law_rests K) := ⟨f, fd, fo__law_rests F b_len b_list b_range b_repr b_tuple C__law_take C_three_told C_three_mending C_three_steps, hg, F.kp, F.bindsN fun _ _ _ _ _ _ us hl => match us, hl with | [_, _], _ => rfl⟩
def m__law_change (box : Ref) (world : Ref) : Mn (Sto K) Bool :=
  (mb (mb (mb (mb (mp box) fun x_575 => mb (mb (mp ((5 : Int) : Int)) fun x_573 => mb (mp ()) fun z574 => mp (x_573, z574)) fun z576 => mp (x_575, z576)) fun z577 => (m__law_take z577.1 z577.2.1)) fun x_593 => mb (mb (mb (mb (mp box) fun x_580 => mb (mb (mp ((2 : Int) : Int)) fun x_578 => mb (mp ()) fun z579 => mp (x_578, z579)) fun z581 => mp (x_580, z581)) fun z582 => (m__law_take z582.1 z582.2.1)) fun x_591 => mb (mb (mb (mb (mp box) fun x_585 => mb (mb (mp ((2 : Int) : Int)) fun x_583 => mb (mp ()) fun z584 => mp (x_583, z584)) fun z586 => mp (x_585, z586)) fun z587 => (m__law_take z587.1 z587.2.1)) fun x_589 => mb (mp ()) fun z590 => mp (x_589, z590)) fun z592 => mp (x_591, z592)) fun z594 => mp (x_593, z594)) fun z588 =>
  (mb (mb (mb (mp world) fun r595 => mb (mp ("value" : Str)) fun i596 => mb (mldD r595) fun xs => mo ((getP xs (Ky.key i596)).bind (PyT.dec (α := Int)))) fun x_609 => mb (mb (mb (mb (mp box) fun x_599 => mb (mb (mp ((3 : Int) : Int)) fun x_597 => mb (mp ()) fun z598 => mp (x_597, z598)) fun z600 => mp (x_599, z600)) fun z601 => (m__law_take z601.1 z601.2.1)) fun x_607 => mb (mb (mb (mp world) fun r602 => mb (mp ("view" : Str)) fun i603 => mb (mldD r602) fun xs => mo ((getP xs (Ky.key i603)).bind (PyT.dec (α := Ref)))) fun x_605 => mb (mp ()) fun z606 => mp (x_605, z606)) fun z608 => mp (x_607, z608)) fun z610 => mp (x_609, z610)) fun z604 =>
  (mb (mb (mb (mb (mb (mldT Int z604.2.2.1) fun xs611 => mu (mp (((xs611.length : Nat) : Int) : Int))) fun x_612 => mb (mp ()) fun z613 => mp (x_612, z613)) fun z614 => mc (b62 z614.1) (rng 0 z614.1.toNat)) fun xs => cmP xs (fun (a615 : Int) => (mb (mb (mp a615) fun i616 => mb (mldL z604.2.2.1) fun xs => mo ((atI xs i616).bind (PyT.dec (α := Int)))) fun x_617 => mp (!decide (x_617 = z604.2.1)))) fun a615 => (mp ((a615, z604.2.1) : (Int × Int)))) fun writes619 =>
  (mb (mb (mp (decide (z604.2.1 = ((z604.1 + (2 : Int)) % (3 : Int))))) fun b => mi b
    (mb (mb (mp writes619) fun xs => mp xs.reverse) fun writes621 => mp writes621)
    (mp writes619)) fun t620 =>
  (mb (mb (mp (decide (z604.2.1 = z604.1))) fun b => mi b
    (mb (mp (([] : (List (Int × Int))) : (List (Int × Int)))) fun writes623 => mp writes623)
    (mp t620)) fun t622 =>
  (mb (mb (mb (mp z604.2.2.1) fun x_626 => mb (mb (mp z588.2.2.1) fun x_624 => mb (mp ()) fun z625 => mp (x_624, z625)) fun z627 => mp (x_626, z627)) fun z628 => (m__law_passed z628.1 z628.2.1)) fun handed629 =>
  (mb (mb (mc (b62 ((2 : Int) : Int)) (rng 0 ((2 : Int) : Int).toNat)) fun xs => forC (β := Empty) xs () fun a631 (t630 : Unit) =>
    (mb (mb (mp (decide (z588.2.1 = (0 : Int)))) fun b642 => mi b642 (mb (mb (mp handed629) fun x_634 => mb (mb (mp z604.2.1) fun x_632 => mb (mp ()) fun z633 => mp (x_632, z633)) fun z635 => mp (x_634, z635)) fun z636 => (m_three_steps z636.1 z636.2.1)) (mb (mb (mp z604.2.1) fun x_639 => mb (mb (mp handed629) fun x_637 => mb (mp ()) fun z638 => mp (x_637, z638)) fun z640 => mp (x_639, z640)) fun z641 => (m_three_steps z641.2.1 z641.1))) fun told643 =>
    (mb (mu (mb (mc (rprDok told643) (rprD told643)) fun x_644 => mb (mc (rprDok t622) (rprD t622)) fun y645 => mp (!decide (x_644 = y645)))) fun b => mi b
      (mb (mp false) fun x => mp (.rt x))
      (mb (mb (mb (mp (((0 : Int), z604.2.1) : (Int × Int))) fun _ => mc (lenOk told643.length) ()) fun u_646 => mp ()) fun x => mp (.nx x))))) (ctk (fun t647 => (mb (mp ((cond (decide (z604.2.1 = ((z604.1 + (2 : Int)) % (3 : Int)))) z604.2.1 z604.1) : Int)) fun u_648 =>
  (mb (mb (mb (mp box) fun x_651 => mb (mb (mp ((((t622.length : Nat) : Int) + (1 : Int)) : Int)) fun x_649 => mb (mp ()) fun z650 => mp (x_649, z650)) fun z652 => mp (x_651, z652)) fun z653 => (m__law_take z653.1 z653.2.1)) fun stop_654 =>
  (mb (mp (decide (z588.1 = (0 : Int)) || decide (stop_654 = ((t622.length : Nat) : Int)))) fun b => mi b
    (mb (mb (mb (mp world) fun x_657 => mb (mb (mp t622) fun x_655 => mb (mp ()) fun z656 => mp (x_655, z656)) fun z658 => mp (x_657, z658)) fun z659 => (m__law_written z659.1 z659.2.1)) fun u_660 =>
  (mb (mb (mp z604.2.1) fun (x_662 : Int) => mb (mp world) fun r663 => mb (mp ("value" : Str)) fun i664 => mb (mldD r663) fun xs => mb (mc (dicOk xs.length) ()) fun _ => mput r663 (.dic (putP xs (Ky.key i664) (PyT.enc x_662)))) fun u_661 =>
  (mb (mb (mp box) fun x_667 => mb (mb (mp world) fun x_665 => mb (mp ()) fun z666 => mp (x_665, z666)) fun z668 => mp (x_667, z668)) fun z669 => (m__law_rests z669.1 z669.2.1))))
    (mb (mb (mb (mp world) fun x_690 => mb (mb (mb (mb (mb (mb (mb (mb (mo (atI t622 stop_654)) fun x_672 => mp x_672.1) fun x_680 => mb (mb (mb (mb (mp box) fun x_675 => mb (mb (mp false) fun x_673 => mb (mp ()) fun z674 => mp (x_673, z674)) fun z676 => mp (x_675, z676)) fun z677 => (m__law_content z677.1 z677.2.1)) fun x_678 => mb (mp ()) fun z679 => mp (x_678, z679)) fun z681 => mp (x_680, z681)) fun z682 => mp (z682.1, z682.2.1)) fun x_683 => mb (mp ()) fun z684 => mp (x_683, z684)) fun z685 => mp ([z685.1] : (List (Int × Int)))) fun y687 => mc (lenOk ((cutL t622 none (some stop_654)).length + y687.length)) ((cutL t622 none (some stop_654)) ++ y687)) fun x_688 => mb (mp ()) fun z689 => mp (x_688, z689)) fun z691 => mp (x_690, z691)) fun z692 => (m__law_written z692.1 z692.2.1)) fun u_693 =>
  (mb (mb (mb (mp box) fun x_696 => mb (mb (mp world) fun x_694 => mb (mp ()) fun z695 => mp (x_694, z695)) fun z697 => mp (x_696, z697)) fun z698 => (m__law_losses z698.1 z698.2.1)) fun u_699 =>
  (mb (mb (mb (mp box) fun x_706 => mb (mb (mp world) fun x_704 => mb (mb (mp u_648) fun x_702 => mb (mb (mp (([z604.1, z604.2.1] : (List Int)) : (List Int))) fun x_700 => mb (mp ()) fun z701 => mp (x_700, z701)) fun z703 => mp (x_702, z703)) fun z705 => mp (x_704, z705)) fun z707 => mp (x_706, z707)) fun z708 => (m__law_opened z708.1 z708.2.1 z708.2.2.1 z708.2.2.2.1)) fun b714 => mi b714 (mb (mb (mp box) fun x_711 => mb (mb (mp world) fun x_709 => mb (mp ()) fun z710 => mp (x_709, z710)) fun z712 => mp (x_711, z712)) fun z713 => (m__law_rests z713.1 z713.2.1)) (mp false)))))))) fun _ => mbad))))))))
abbrev sp__law_change (K : PySem.W.Frag) : Sp := Prom (rIm K) (S := (Sto K)) (fun i : Ref × Ref => [.im (pv K i.1), .im (pv K i.2)]) fun i => m__law_change i.1 i.2
theorem len__law_change : ∀ vs H Q E, sp__law_change K vs H Q E → vs.length = 2 := prom_len (S := (Sto K)) (Ret := (rIm K)) (As := fun i : Ref × Ref => [.im (pv K i.1), .im (pv K i.2)]) (m := fun i => m__law_change i.1 i.2) fun _ => rfl
theorem sc__law_change : FnScope ["box", "world", "way", "by_name", "low", "old", "new", "view", "writes", "handed", "turn", "told", "u", "stop", "index"] ["box", "world"] (defScope (top 38)) := ⟨rfl, rfl, rfl, by decide +kernel, rfl, by decide +kernel, by decide +kernel⟩
theorem fo__law_change {f : Addr} {fd : FuncData} (F : FnP K "_law_change" (top 38) f fd) (b_int : mg "int" = none) (b_len : mg "len" = none) (b_range : mg "range" = none) (b_repr : mg "repr" = none) (C__law_take : Cal P w K mg base 1 "_law_take" ["box", "many"] (sp__law_take K)) (C__law_passed : Cal P w K mg base 1 "_law_passed" ["view", "low"] (sp__law_passed K)) (C_three_steps : Cal P w K mg base 6 "three_steps" ["view", "new"] (sp_three_steps K)) (D_three_steps__new_view : CalK P w K mg base 6 "three_steps" ["view", "new"] (sp_three_steps K) ["new", "view"] gl_three_steps__new_view gv_three_steps__new_view) (C__law_written : Cal P w K mg base 1 "_law_written" ["world", "writes"] (sp__law_written K)) (C__law_rests : CalG P w K mg base 7 "_law_rests" ["box", "world"] (sp__law_rests K)) (C__law_content : Cal P w K mg base 2 "_law_content" ["box", "great"] (sp__law_content K)) (C__law_losses : Cal P w K mg base 2 "_law_losses" ["box", "world"] (sp__law_losses K)) (C__law_opened : CalG P w K mg base 8 "_law_opened" ["box", "world", "u", "pair"] (sp__law_opened K)) : FnG P w K mg base CX0 9 f fd ["box", "world"] (sp__law_change K) := by
  obtain ⟨f__law_take, fd__law_take, G__law_take, g__law_take, kp__law_take, bi__law_take⟩ := C__law_take.ex
  obtain ⟨f__law_passed, fd__law_passed, G__law_passed, g__law_passed, kp__law_passed, bi__law_passed⟩ := C__law_passed.ex
  obtain ⟨f_three_steps, fd_three_steps, G_three_steps, g_three_steps, kp_three_steps, bi_three_steps⟩ := C_three_steps.ex
  obtain ⟨f_three_steps__new_view, fd_three_steps__new_view, G_three_steps__new_view, g_three_steps__new_view, kp_three_steps__new_view, bi_three_steps__new_view⟩ := D_three_steps__new_view.ex
  obtain ⟨f__law_written, fd__law_written, G__law_written, g__law_written, kp__law_written, bi__law_written⟩ := C__law_written.ex
  obtain ⟨f__law_rests, fd__law_rests, G__law_rests, g__law_rests, kp__law_rests, bi__law_rests⟩ := C__law_rests.ex
  obtain ⟨f__law_content, fd__law_content, G__law_content, g__law_content, kp__law_content, bi__law_content⟩ := C__law_content.ex
  obtain ⟨f__law_losses, fd__law_losses, G__law_losses, g__law_losses, kp__law_losses, bi__law_losses⟩ := C__law_losses.ex
  obtain ⟨f__law_opened, fd__law_opened, G__law_opened, g__law_opened, kp__law_opened, bi__law_opened⟩ := C__law_opened.ex
  refine okG F sc__law_change (len__law_change (K := K)) (fun cdv A outer s H vs Q E hgd hr h => ?_)
  have hl : vs.length = 2 := len__law_change (K := K) vs H Q E h
  match vs, hl, h with
  | [v0, v1], _, h => exact ⟨_, PSs.nox ((pss_cons (ps_par3 (i := 2) (j := 3) (l := 4) rfl sc__law_change.nd rfl rfl rfl (by decide) (by decide) (by decide) rfl rfl rfl (pa_cons (pe_call G__law_take (hr.mono (Nat.le_of_ble_eq_true rfl)) rfl g__law_take kp__law_take bi__law_take .nil pass0 (pa_cons (L2.pv 0) (pa_cons pe_int pa_nil))) (pa_cons (pe_call G__law_take (hr.mono (Nat.le_of_ble_eq_true rfl)) rfl g__law_take kp__law_take bi__law_take .nil pass0 (pa_cons (L2.pv 0) (pa_cons pe_int pa_nil))) (pa_cons (pe_call G__law_take (hr.mono (Nat.le_of_ble_eq_true rfl)) rfl g__law_take kp__law_take bi__law_take .nil pass0 (pa_cons (L2.pv 0) (pa_cons pe_int pa_nil))) pa_nil))) rfl) (pss_cons (ps_asg (pe_tup (pa_cons (pe_dget (hu1 hr) (L2.pv 1) pe_str (fun _ _ => rfl)) (pa_cons (pe_call G__law_take (hr.mono (Nat.le_of_ble_eq_true rfl)) rfl g__law_take kp__law_take bi__law_take .nil pass0 (pa_cons (L2.pv 0) (pa_cons pe_int pa_nil))) (pa_cons (pe_dget (hu1 hr) (L2.pv 1) pe_str (fun _ _ => rfl)) pa_nil)))) (pg_tup (n := 3) rfl (pgs_cons (pg_name (i := 5) sc__law_change.nd rfl (Or.inl rfl)) (pgs_cons (pg_name (i := 6) sc__law_change.nd rfl (Or.inr rfl)) (pgs_cons (pg_name (i := 7) sc__law_change.nd rfl (Or.inr rfl)) pgs_nil))))) (pss_cons (ps_setLc (i := 8) (own := [("index", 14)]) rfl sc__law_change.nd rfl rfl (sw_true rfl rfl rfl (by decide +kernel)) (pi_range1 rfl b_range (pa_cons (pe_callB call_len_seq rfl b_len bt_len (pa_cons (L2.pv 7) pa_nil)) pa_nil)) (blkOk_by (own := [("index", 14)]) (N := ["box", "world", "way", "by_name", "low", "old", "new", "view", "writes", "handed", "turn", "told", "u", "stop", "index"]) (sc := defScope (top 38)) (by decide +kernel)) (fun _ _ _ _ _ => (pg_name (i := 14) sc__law_change.nd rfl (Or.inl rfl))) (fun _ _ _ _ _ => (pts_one (pt_cmpR op_ne (pe_ix ix_list (L2.pv 7) (L2.pv 14) (fun _ _ => rfl)) (L2.pv 6) (nomark _)))) (fun _ _ _ _ _ => (pe_tup (pa_cons (L2.pv 14) (pa_cons (L2.pv 6) pa_nil))))) (pss_cons (ps_if (pt_cmpR op_eq (L2.pv 6) (pe_op op_mod (pe_callTy call_int1 rfl b_int bt_int (pa_cons (pe_op op_add (L2.pv 5) pe_int) pa_nil)) pe_int) (nomark _)) (pss_one (ps_set (i := 8) sc__law_change.nd rfl (Or.inl rfl) (pe_revL (L2.pv 8)))) pss_nil) (pss_cons (ps_if (pt_cmpR op_eq (L2.pv 6) (L2.pv 5) (nomark _)) (pss_one (ps_set (i := 8) sc__law_change.nd rfl (Or.inl rfl) (pe_lst pa_nil))) pss_nil) (pss_cons (ps_set (i := 9) sc__law_change.nd rfl (Or.inl rfl) (pe_call G__law_passed (hr.mono (Nat.le_of_ble_eq_true rfl)) rfl g__law_passed kp__law_passed bi__law_passed .nil pass0 (pa_cons (L2.pv 7) (pa_cons (L2.pv 4) pa_nil)))) (pss_cons (ps_for PassesOwn.never rfl (pi_range1 rfl b_range (pa_cons pe_int pa_nil)) (pg_name (i := 10) sc__law_change.nd rfl (Or.inl rfl)) (pss_cons (ps_set (i := 11) sc__law_change.nd rfl (Or.inl rfl) (pe_ifExp (pt_cmpR op_eq (L2.pv 3) pe_int (nomark _)) (pe_call G_three_steps (hr.mono (Nat.le_of_ble_eq_true rfl)) rfl g_three_steps kp_three_steps bi_three_steps .nil pass0 (pa_cons (L2.pv 9) (pa_cons (L2.pv 6) pa_nil))) (pe_callK0 G_three_steps__new_view (hr.mono (Nat.le_of_ble_eq_true rfl)) rfl g_three_steps__new_view kp_three_steps__new_view bi_three_steps__new_view pass0 (pk_cons (L2.pv 6) (pk_cons (L2.pv 9) pk_nil))))) (pss_cons (ps_if (pt_cmpR op_ne (pe_callB (cr_reprD hgd (hu66 hr)) rfl b_repr bt_repr (pa_cons (L2.pv 11) pa_nil)) (pe_callB (cr_reprD hgd (hu66 hr)) rfl b_repr bt_repr (pa_cons (L2.pv 8) pa_nil)) (nomark _)) (pss_one (ps_ret pe_bl)) pss_nil) (pss_one (ps_expr (pe_bm PySem.F.plainAttrs_list PySem.F.slot_list_append PySem.F.type_list_append mt_append (L2.pv 11) (pa_cons (pe_tup (pa_cons pe_int (pa_cons (L2.pv 6) pa_nil))) pa_nil))))))) (pss_cons (ps_set (i := 12) sc__law_change.nd rfl (Or.inl rfl) (pe_ifExp (pt_cmpR op_eq (L2.pv 6) (pe_op op_mod (pe_callTy call_int1 rfl b_int bt_int (pa_cons (pe_op op_add (L2.pv 5) pe_int) pa_nil)) pe_int) (nomark _)) (L2.pv 6) (L2.pv 5))) (pss_cons (ps_set (i := 13) sc__law_change.nd rfl (Or.inl rfl) (pe_call G__law_take (hr.mono (Nat.le_of_ble_eq_true rfl)) rfl g__law_take kp__law_take bi__law_take .nil pass0 (pa_cons (L2.pv 0) (pa_cons (pe_op op_add (pe_callB call_len_seq rfl b_len bt_len (pa_cons (L2.pv 8) pa_nil)) pe_int) pa_nil)))) (pss_cons (ps_if (PW.pt (pw_or (pt_cmpR op_eq (L2.pv 2) pe_int (nomark _)) (pw_or1 (pt_cmpR op_eq (L2.pv 13) (pe_callB call_len_seq rfl b_len bt_len (pa_cons (L2.pv 8) pa_nil)) (nomark _))))) (pss_cons (ps_expr (pe_call G__law_written (hr.mono (Nat.le_of_ble_eq_true rfl)) rfl g__law_written kp__law_written bi__law_written .nil pass0 (pa_cons (L2.pv 1) (pa_cons (L2.pv 8) pa_nil)))) (pss_cons (ps_dput (hu1 hr) (L2.pv 1) pe_str (L2.pv 6) rfl) (pss_one (ps_ret (pe_callG G__law_rests hgd (hr.mono (Nat.le_of_ble_eq_true rfl)) rfl g__law_rests kp__law_rests bi__law_rests .nil pass0 (pa_cons (L2.pv 0) (pa_cons (L2.pv 1) pa_nil))))))) pss_nil) (pss_cons (ps_expr (pe_call G__law_written (hr.mono (Nat.le_of_ble_eq_true rfl)) rfl g__law_written kp__law_written bi__law_written .nil pass0 (pa_cons (L2.pv 1) (pa_cons (pe_op op_cat (pe_slice sl_list (L2.pv 8) po_none (po_some (L2.pv 13))) (pe_lst (pa_cons (pe_tup (pa_cons (pe_ix ix_tup (pe_ix ix_list (L2.pv 8) (L2.pv 13) (fun _ _ => rfl)) pe_int (fun _ _ => rfl)) (pa_cons (pe_call G__law_content (hr.mono (Nat.le_of_ble_eq_true rfl)) rfl g__law_content kp__law_content bi__law_content .nil pass0 (pa_cons (L2.pv 0) (pa_cons pe_bl pa_nil))) pa_nil))) pa_nil))) pa_nil)))) (pss_cons (ps_expr (pe_call G__law_losses (hr.mono (Nat.le_of_ble_eq_true rfl)) rfl g__law_losses kp__law_losses bi__law_losses .nil pass0 (pa_cons (L2.pv 0) (pa_cons (L2.pv 1) pa_nil)))) (pss_one (ps_ret (pe_and (pe_callG G__law_opened hgd (hr.mono (Nat.le_of_ble_eq_true rfl)) rfl g__law_opened kp__law_opened bi__law_opened .nil pass0 (pa_cons (L2.pv 0) (pa_cons (L2.pv 1) (pa_cons (L2.pv 12) (pa_cons (pe_lst (pa_cons (L2.pv 5) (pa_cons (L2.pv 6) pa_nil))) pa_nil))))) (pe_one (pe_callG G__law_rests hgd (hr.mono (Nat.le_of_ble_eq_true rfl)) rfl g__law_rests kp__law_rests bi__law_rests .nil pass0 (pa_cons (L2.pv 0) (pa_cons (L2.pv 1) pa_nil)))))))))))))))))))), prom_ok (n := 2) (S := (Sto K)) (Ret := (rIm K)) (As := fun i : Ref × Ref => [.im (pv K i.1), .im (pv K i.2)]) (m := fun i => m__law_change i.1 i.2) 13 (fun _ => rfl) rfl (fun (box, world) => (show RN (rIm K) _ (fun (s : (Sto K)) => [.im (pv K box), .im (pv K world), .no, .no, .no, .no, .no, .no, .no, .no, .no, .no, .no, .no, .no]) (m__law_change box world) (fun (s : (Sto K)) => [.no, .no, .no, .no, .no, .no, .no, .no, .no, .no, .no, .no, .no, .no, .no]) from (rn_of (rt_seq (rp_asg3 (Γ' := fun (z588 : Int × Int × Int × Unit) (s : (Sto K)) => [.im (pv K box), .im (pv K world), .im (pv K z588.1), .im (pv K z588.2.1), .im (pv K z588.2.2.1), .no, .no, .no, .no, .no, .no, .no, .no, .no, .no]) (ao_m (em_of_eo (eo_callS (f := fun (z577 : Ref × Int × Unit) => (z577.1, z577.2.1)) (am_cons (em_pure fun _ => (ep_var rfl)) (am_cons (em_pure fun _ => (ep_int (K := K))) am_nil)) (fun _ _ => rfl) fun _ _ => rfl)) (ao_m (em_of_eo (eo_callS (f := fun (z582 : Ref × Int × Unit) => (z582.1, z582.2.1)) (am_cons (em_pure fun _ => (ep_var rfl)) (am_cons (em_pure fun _ => (ep_int (K := K))) am_nil)) (fun _ _ => rfl) fun _ _ => rfl)) (ao_m (em_of_eo (eo_callS (f := fun (z587 : Ref × Int × Unit) => (z587.1, z587.2.1)) (am_cons (em_pure fun _ => (ep_var rfl)) (am_cons (em_pure fun _ => (ep_int (K := K))) am_nil)) (fun _ _ => rfl) fun _ _ => rfl)) ao_nil))) (fun _ => asg_ok rfl) (fun _ => rfl) (fun _ => rfl) fun _ _ => rfl) fun z588 => (rt_seq (rp_asgT (Γ' := fun (z604 : Int × Int × Ref × Unit) (s : (Sto K)) => [.im (pv K box), .im (pv K world), .im (pv K z588.1), .im (pv K z588.2.1), .im (pv K z588.2.2.1), .im (pv K z604.1), .im (pv K z604.2.1), .im (pv K z604.2.2.1), .no, .no, .no, .no, .no, .no, .no]) [5, 6, 7] (ao_m (em_dget (em_pure fun _ => (ep_var rfl)) (em_pure fun _ => ep_str)) (ao_m (em_of_eo (eo_callS (f := fun (z601 : Ref × Int × Unit) => (z601.1, z601.2.1)) (am_cons (em_pure fun _ => (ep_var rfl)) (am_cons (em_pure fun _ => (ep_int (K := K))) am_nil)) (fun _ _ => rfl) fun _ _ => rfl)) (ao_m (em_dget (em_pure fun _ => (ep_var rfl)) (em_pure fun _ => ep_str)) ao_nil))) (fun _ => asg_ok rfl) (fun _ => rfl) (fun _ => rfl) (Nat.le_of_ble_eq_true rfl) fun _ _ => rfl) fun z604 => (rt_seq (rp_asg (Γ := fun (s : (Sto K)) => [.im (pv K box), .im (pv K world), .im (pv K z588.1), .im (pv K z588.2.1), .im (pv K z588.2.2.1), .im (pv K z604.1), .im (pv K z604.2.1), .im (pv K z604.2.2.1), .no, .no, .no, .no, .no, .no, .no]) (i := 8) (Γ' := fun writes619 (s : (Sto K)) => [.im (pv K box), .im (pv K world), .im (pv K z588.1), .im (pv K z588.2.1), .im (pv K z588.2.2.1), .im (pv K z604.1), .im (pv K z604.2.1), .im (pv K z604.2.2.1), .im (pv K writes619), .no, .no, .no, .no, .no, .no]) (em_lc (vs := [14]) (Γ := (fun (s : (Sto K)) => [.im (pv K box), .im (pv K world), .im (pv K z588.1), .im (pv K z588.2.1), .im (pv K z588.2.2.1), .im (pv K z604.1), .im (pv K z604.2.1), .im (pv K z604.2.2.1), .no, .no, .no, .no, .no, .no, .no])) (Γx := fun (a615 : Int) (s : (Sto K)) => [.im (pv K box), .im (pv K world), .im (pv K z588.1), .im (pv K z588.2.1), .im (pv K z588.2.2.1), .im (pv K z604.1), .im (pv K z604.2.1), .im (pv K z604.2.2.1), .no, .no, .no, .no, .no, .no, .im (pv K a615)]) (js := [14]) (im_rng1M (f := fun (z614 : Int × Unit) => z614.1) (am_cons (em_borR (r := z604.2.2.1) (Γ0 := [.im (pv K box), .im (pv K world), .im (pv K z588.1), .im (pv K z588.2.1), .im (pv K z588.2.2.1), .im (pv K z604.1), .im (pv K z604.2.1), .im (pv K z604.2.2.1), .no, .no, .no, .no, .no, .no, .no]) (j := 7) (Γ1 := fun xs611 => [.im (pv K box), .im (pv K world), .im (pv K z588.1), .im (pv K z588.2.1), .im (pv K z588.2.2.1), .im (pv K z604.1), .im (pv K z604.2.1), .im (pv K xs611), .no, .no, .no, .no, .no, .no, .no]) (fun _ => (.cons (.rfl _) (.cons (.rfl _) (.cons (.rfl _) (.cons (.rfl _) (.cons (.rfl _) (.cons (.rfl _) (.cons (.rfl _) (.cons (.rfl _) (.cons (.rfl _) (.cons (.rfl _) (.cons (.rfl _) (.cons (.rfl _) (.cons (.rfl _) (.cons (.rfl _) (.cons (.rfl _) .nil)))))))))))))))) rfl rfl (fun _ => rfl) (fun xs611 => (em_pure fun _ => (ep_cb (ap_cons (ep_var rfl) ap_nil) c_lenL))) fun _ => rfl) am_nil)) (fun _ => rfl) (fun a615 s => (gt_name (Γ := [.im (pv K box), .im (pv K world), .im (pv K z588.1), .im (pv K z588.2.1), .im (pv K z588.2.2.1), .im (pv K z604.1), .im (pv K z604.2.1), .im (pv K z604.2.2.1), .no, .no, .no, .no, .no, .no, .no]) (i := 14) (Γ' := [.im (pv K box), .im (pv K world), .im (pv K z588.1), .im (pv K z588.2.1), .im (pv K z588.2.2.1), .im (pv K z604.1), .im (pv K z604.2.1), .im (pv K z604.2.2.1), .no, .no, .no, .no, .no, .no, .im (pv K a615)]) rfl rfl)) rfl (fun a615 => (tm_test (em_opr (g := fun (u : Int) (v : Int) => (!decide (u = v))) (em_ixR (r := z604.2.2.1) (fun _ => (ep_var rfl)) (em_pure fun _ => (ep_var rfl))) (fun _ => (ep_var rfl)) fun _ => o_ne))) (fun a615 => (em_pure fun _ => (ep_tup (ap_cons (ep_var rfl) (ap_cons (ep_var rfl) ap_nil)) tup2))) fun a615 s => (.cons (.rfl _) (.cons (.rfl _) (.cons (.rfl _) (.cons (.rfl _) (.cons (.rfl _) (.cons (.rfl _) (.cons (.rfl _) (.cons (.rfl _) (.cons (.rfl _) (.cons (.rfl _) (.cons (.rfl _) (.cons (.rfl _) (.cons (.rfl _) (.cons (.rfl _) (.cons (.no _) .nil)))))))))))))))) (fun _ => rfl) fun _ _ => rfl) fun writes619 => (rt_seq (rp_if (Γ' := fun t620 (s : (Sto K)) => [.im (pv K box), .im (pv K world), .im (pv K z588.1), .im (pv K z588.2.1), .im (pv K z588.2.2.1), .im (pv K z604.1), .im (pv K z604.2.1), .im (pv K z604.2.2.1), .im (pv K t620), .no, .no, .no, .no, .no, .no]) (tm_pure fun _ => (tp_test (ep_op (ep_var rfl) (ep_op (ep_cb (ap_cons (ep_op (ep_var rfl) (ep_int (K := K)) o_add) ap_nil) c_int) (ep_int (K := K)) (o_mod rfl)) o_eq))) (rp_post (f := fun writes621 => writes621) (rp_asg (Γ := fun (s : (Sto K)) => [.im (pv K box), .im (pv K world), .im (pv K z588.1), .im (pv K z588.2.1), .im (pv K z588.2.2.1), .im (pv K z604.1), .im (pv K z604.2.1), .im (pv K z604.2.2.1), .im (pv K writes619), .no, .no, .no, .no, .no, .no]) (i := 8) (Γ' := fun writes621 (s : (Sto K)) => [.im (pv K box), .im (pv K world), .im (pv K z588.1), .im (pv K z588.2.1), .im (pv K z588.2.2.1), .im (pv K z604.1), .im (pv K z604.2.1), .im (pv K z604.2.2.1), .im (pv K writes621), .no, .no, .no, .no, .no, .no]) (em_ownL (eo_back (em_pure fun _ => (ep_var rfl)))) (fun _ => rfl) fun _ _ => rfl) fun writes621 s => (.cons (.rfl _) (.cons (.rfl _) (.cons (.rfl _) (.cons (.rfl _) (.cons (.rfl _) (.cons (.rfl _) (.cons (.rfl _) (.cons (.rfl _) (.cons (.rfl _) (.cons (.rfl _) (.cons (.rfl _) (.cons (.rfl _) (.cons (.rfl _) (.cons (.rfl _) (.cons (.rfl _) .nil)))))))))))))))) (rp_next (x := writes619) fun s => (.cons (.rfl _) (.cons (.rfl _) (.cons (.rfl _) (.cons (.rfl _) (.cons (.rfl _) (.cons (.rfl _) (.cons (.rfl _) (.cons (.rfl _) (.cons (.rfl _) (.cons (.rfl _) (.cons (.rfl _) (.cons (.rfl _) (.cons (.rfl _) (.cons (.rfl _) (.cons (.rfl _) .nil))))))))))))))))) fun t620 => (rt_seq (rp_if (Γ' := fun t622 (s : (Sto K)) => [.im (pv K box), .im (pv K world), .im (pv K z588.1), .im (pv K z588.2.1), .im (pv K z588.2.2.1), .im (pv K z604.1), .im (pv K z604.2.1), .im (pv K z604.2.2.1), .im (pv K t622), .no, .no, .no, .no, .no, .no]) (tm_pure fun _ => (tp_test (ep_op (ep_var rfl) (ep_var rfl) o_eq))) (rp_post (f := fun writes623 => writes623) (rp_asg (Γ := fun (s : (Sto K)) => [.im (pv K box), .im (pv K world), .im (pv K z588.1), .im (pv K z588.2.1), .im (pv K z588.2.2.1), .im (pv K z604.1), .im (pv K z604.2.1), .im (pv K z604.2.2.1), .im (pv K t620), .no, .no, .no, .no, .no, .no]) (i := 8) (Γ' := fun writes623 (s : (Sto K)) => [.im (pv K box), .im (pv K world), .im (pv K z588.1), .im (pv K z588.2.1), .im (pv K z588.2.2.1), .im (pv K z604.1), .im (pv K z604.2.1), .im (pv K z604.2.2.1), .im (pv K writes623), .no, .no, .no, .no, .no, .no]) (em_pure fun _ => (ep_lst (xs := ([] : (List (Int × Int)))) (hl := Nat.le_of_ble_eq_true rfl) ap_nil)) (fun _ => rfl) fun _ _ => rfl) fun writes623 s => (.cons (.rfl _) (.cons (.rfl _) (.cons (.rfl _) (.cons (.rfl _) (.cons (.rfl _) (.cons (.rfl _) (.cons (.rfl _) (.cons (.rfl _) (.cons (.rfl _) (.cons (.rfl _) (.cons (.rfl _) (.cons (.rfl _) (.cons (.rfl _) (.cons (.rfl _) (.cons (.rfl _) .nil)))))))))))))))) (rp_next (x := t620) fun s => (.cons (.rfl _) (.cons (.rfl _) (.cons (.rfl _) (.cons (.rfl _) (.cons (.rfl _) (.cons (.rfl _) (.cons (.rfl _) (.cons (.rfl _) (.cons (.rfl _) (.cons (.rfl _) (.cons (.rfl _) (.cons (.rfl _) (.cons (.rfl _) (.cons (.rfl _) (.cons (.rfl _) .nil))))))))))))))))) fun t622 => (rt_seq (rp_asg (Γ := fun (s : (Sto K)) => [.im (pv K box), .im (pv K world), .im (pv K z588.1), .im (pv K z588.2.1), .im (pv K z588.2.2.1), .im (pv K z604.1), .im (pv K z604.2.1), .im (pv K z604.2.2.1), .im (pv K t622), .no, .no, .no, .no, .no, .no]) (i := 9) (Γ' := fun handed629 (s : (Sto K)) => [.im (pv K box), .im (pv K world), .im (pv K z588.1), .im (pv K z588.2.1), .im (pv K z588.2.2.1), .im (pv K z604.1), .im (pv K z604.2.1), .im (pv K z604.2.2.1), .im (pv K t622), .im (pv K handed629), .no, .no, .no, .no, .no]) (em_of_eo (eo_callS (f := fun (z628 : Ref × Int × Unit) => (z628.1, z628.2.1)) (am_cons (em_pure fun _ => (ep_var rfl)) (am_cons (em_pure fun _ => (ep_var rfl)) am_nil)) (fun _ _ => rfl) fun _ _ => rfl)) (fun _ => rfl) fun _ _ => rfl) fun handed629 => (rt_seqC (rc_for (β := Empty) (Γb := fun b _ => nomatch b) (Γr := (fun (s : (Sto K)) => [.no, .no, .no, .no, .no, .no, .no, .no, .no, .no, .no, .no, .no, .no, .no])) (ΓL := fun (t630 : Unit) (s : (Sto K)) => [.im (pv K box), .im (pv K world), .im (pv K z588.1), .im (pv K z588.2.1), .im (pv K z588.2.2.1), .im (pv K z604.1), .im (pv K z604.2.1), .im (pv K z604.2.2.1), .im (pv K t622), .im (pv K handed629), .no, .no, .no, .no, .no]) (Γx := fun (a631 : Int) (t630 : Unit) (s : (Sto K)) => [.im (pv K box), .im (pv K world), .im (pv K z588.1), .im (pv K z588.2.1), .im (pv K z588.2.2.1), .im (pv K z604.1), .im (pv K z604.2.1), .im (pv K z604.2.2.1), .im (pv K t622), .im (pv K handed629), .im (pv K a631), .no, .no, .no, .no]) (im_rng1 fun _ => (ap_cons (ep_int (K := K)) ap_nil)) (fun s => (.cons (.rfl _) (.cons (.rfl _) (.cons (.rfl _) (.cons (.rfl _) (.cons (.rfl _) (.cons (.rfl _) (.cons (.rfl _) (.cons (.rfl _) (.cons (.rfl _) (.cons (.rfl _) (.cons (.rfl _) (.cons (.rfl _) (.cons (.rfl _) (.cons (.rfl _) (.cons (.rfl _) .nil)))))))))))))))) (fun a631 t630 s => (gt_name (Γ := [.im (pv K box), .im (pv K world), .im (pv K z588.1), .im (pv K z588.2.1), .im (pv K z588.2.2.1), .im (pv K z604.1), .im (pv K z604.2.1), .im (pv K z604.2.2.1), .im (pv K t622), .im (pv K handed629), .no, .no, .no, .no, .no]) (i := 10) (Γ' := [.im (pv K box), .im (pv K world), .im (pv K z588.1), .im (pv K z588.2.1), .im (pv K z588.2.2.1), .im (pv K z604.1), .im (pv K z604.2.1), .im (pv K z604.2.2.1), .im (pv K t622), .im (pv K handed629), .im (pv K a631), .no, .no, .no, .no]) rfl rfl)) fun a631 t630 => (rc_seqP (rp_take (Γ := fun (s : (Sto K)) => [.im (pv K box), .im (pv K world), .im (pv K z588.1), .im (pv K z588.2.1), .im (pv K z588.2.2.1), .im (pv K z604.1), .im (pv K z604.2.1), .im (pv K z604.2.2.1), .im (pv K t622), .im (pv K handed629), .im (pv K a631), .no, .no, .no, .no]) (i := 11) (Γ' := fun told643 (s : (Sto K)) => [.im (pv K box), .im (pv K world), .im (pv K z588.1), .im (pv K z588.2.1), .im (pv K z588.2.2.1), .im (pv K z604.1), .im (pv K z604.2.1), .im (pv K z604.2.2.1), .im (pv K t622), .im (pv K handed629), .im (pv K a631), .ow (ol K told643), .no, .no, .no]) (eo_if (tm_pure fun _ => (tp_test (ep_op (ep_var rfl) (ep_int (K := K)) o_eq))) (eo_callS (f := fun (z636 : (Sv Int) × Int × Unit) => (z636.1, z636.2.1)) (am_cons (em_pure fun _ => (ep_var rfl)) (am_cons (em_pure fun _ => (ep_var rfl)) am_nil)) (fun _ _ => rfl) fun _ _ => rfl) (eo_callKS (f := fun (z641 : Int × (Sv Int) × Unit) => (z641.2.1, z641.1)) (qsf := fun (z641 : Int × (Sv Int) × Unit) => [pv K z641.2.1, pv K z641.1]) (am_cons (em_pure fun _ => (ep_var rfl)) (am_cons (em_pure fun _ => (ep_var rfl)) am_nil)) (by intro z641 I vs h; obtain ⟨_, _, rfl, r0, h⟩ := all2_c h; obtain ⟨_, _, rfl, r1, h⟩ := all2_c h; cases all2_n h; exact (.cons r1 (.cons r0 .nil))) (fun _ _ => rfl) fun _ _ => rfl)) (fun _ => rfl) (fun _ => Nat.le_of_ble_eq_true rfl) fun _ _ => rfl) fun told643 => (rc_ifr (tm_bor (Γ0 := [.im (pv K box), .im (pv K world), .im (pv K z588.1), .im (pv K z588.2.1), .im (pv K z588.2.2.1), .im (pv K z604.1), .im (pv K z604.2.1), .im (pv K z604.2.2.1), .im (pv K t622), .im (pv K handed629), .im (pv K a631), .im (pv K told643), .no, .no, .no]) (fun _ => (.cons (.rfl _) (.cons (.rfl _) (.cons (.rfl _) (.cons (.rfl _) (.cons (.rfl _) (.cons (.rfl _) (.cons (.rfl _) (.cons (.rfl _) (.cons (.rfl _) (.cons (.rfl _) (.cons (.rfl _) (.cons (.fr fr_ol) (.cons (.rfl _) (.cons (.rfl _) (.cons (.rfl _) .nil)))))))))))))))) rfl (tm_test (em_op (g := fun (u : Str) (v : Str) => (!decide (u = v))) (em_cbC0 (fun _ => (ap_cons (ep_var rfl) ap_nil)) fun h => (c_reprD (Nat.le_of_ble_eq_true rfl) h)) (em_cbC0 (fun _ => (ap_cons (ep_var rfl) ap_nil)) fun h => (c_reprD (Nat.le_of_ble_eq_true rfl) h)) fun _ _ => o_ne))) (rx_ret (rt_ret (em_pure fun _ => (ep_bl (K := K))) fun s => (.cons (.no _) (.cons (.no _) (.cons (.no _) (.cons (.no _) (.cons (.no _) (.cons (.no _) (.cons (.no _) (.cons (.no _) (.cons (.no _) (.cons (.no _) (.cons (.no _) (.cons (.drop _) (.cons (.rfl _) (.cons (.rfl _) (.cons (.rfl _) .nil))))))))))))))))) (rc_of_p (rp_post (f := fun u_646 => ()) (rp_appN (Γ' := fun (s : (Sto K)) => [.im (pv K box), .im (pv K world), .im (pv K z588.1), .im (pv K z588.2.1), .im (pv K z588.2.2.1), .im (pv K z604.1), .im (pv K z604.2.1), .im (pv K z604.2.2.1), .im (pv K t622), .im (pv K handed629), .im (pv K a631), .no, .no, .no, .no]) (fun _ => rfl) (em_pure fun _ => (ep_tup (ap_cons (ep_int (K := K)) (ap_cons (ep_var rfl) ap_nil)) tup2)) fun _ => rfl) fun u_646 s => (.cons (.rfl _) (.cons (.rfl _) (.cons (.rfl _) (.cons (.rfl _) (.cons (.rfl _) (.cons (.rfl _) (.cons (.rfl _) (.cons (.rfl _) (.cons (.rfl _) (.cons (.rfl _) (.cons (.no _) (.cons (.rfl _) (.cons (.rfl _) (.cons (.rfl _) (.cons (.rfl _) .nil)))))))))))))))))))) fun t647 => (rt_seq (rp_asg (Γ := fun (s : (Sto K)) => [.im (pv K box), .im (pv K world), .im (pv K z588.1), .im (pv K z588.2.1), .im (pv K z588.2.2.1), .im (pv K z604.1), .im (pv K z604.2.1), .im (pv K z604.2.2.1), .im (pv K t622), .im (pv K handed629), .no, .no, .no, .no, .no]) (i := 12) (Γ' := fun u_648 (s : (Sto K)) => [.im (pv K box), .im (pv K world), .im (pv K z588.1), .im (pv K z588.2.1), .im (pv K z588.2.2.1), .im (pv K z604.1), .im (pv K z604.2.1), .im (pv K z604.2.2.1), .im (pv K t622), .im (pv K handed629), .no, .no, .im (pv K u_648), .no, .no]) (em_pure fun _ => (ep_if (tp_test (ep_op (ep_var rfl) (ep_op (ep_cb (ap_cons (ep_op (ep_var rfl) (ep_int (K := K)) o_add) ap_nil) c_int) (ep_int (K := K)) (o_mod rfl)) o_eq)) (fun _ => (ep_var rfl)) fun _ => (ep_var rfl))) (fun _ => rfl) fun _ _ => rfl) fun u_648 => (rt_seq (rp_asg (Γ := fun (s : (Sto K)) => [.im (pv K box), .im (pv K world), .im (pv K z588.1), .im (pv K z588.2.1), .im (pv K z588.2.2.1), .im (pv K z604.1), .im (pv K z604.2.1), .im (pv K z604.2.2.1), .im (pv K t622), .im (pv K handed629), .no, .no, .im (pv K u_648), .no, .no]) (i := 13) (Γ' := fun stop_654 (s : (Sto K)) => [.im (pv K box), .im (pv K world), .im (pv K z588.1), .im (pv K z588.2.1), .im (pv K z588.2.2.1), .im (pv K z604.1), .im (pv K z604.2.1), .im (pv K z604.2.2.1), .im (pv K t622), .im (pv K handed629), .no, .no, .im (pv K u_648), .im (pv K stop_654), .no]) (em_of_eo (eo_callS (f := fun (z653 : Ref × Int × Unit) => (z653.1, z653.2.1)) (am_cons (em_pure fun _ => (ep_var rfl)) (am_cons (em_pure fun _ => (ep_op (ep_cb (ap_cons (ep_var rfl) ap_nil) c_lenL) (ep_int (K := K)) o_add)) am_nil)) (fun _ _ => rfl) fun _ _ => rfl)) (fun _ => rfl) fun _ _ => rfl) fun stop_654 => (rt_ifr (tm_pure fun _ => (tp_or (tp_test (ep_op (ep_var rfl) (ep_int (K := K)) o_eq)) fun _ => (tp_test (ep_op (ep_var rfl) (ep_cb (ap_cons (ep_var rfl) ap_nil) c_lenL) o_eq)))) (rt_seq (rp_drop (em_of_eo (eo_callS (f := fun (z659 : Ref × (List (Int × Int)) × Unit) => (z659.1, z659.2.1)) (am_cons (em_pure fun _ => (ep_var rfl)) (am_cons (em_pure fun _ => (ep_var rfl)) am_nil)) (fun _ _ => rfl) fun _ _ => rfl))) fun u_660 => (rt_seq (rp_dput (em_pure fun _ => (ep_var rfl)) (em_pure fun _ => (ep_var rfl)) (em_pure fun _ => ep_str) fun _ _ => rfl) fun u_661 => (rt_ret (em_of_eo (eo_callS (f := fun (z669 : Ref × Ref × Unit) => (z669.1, z669.2.1)) (am_cons (em_pure fun _ => (ep_var rfl)) (am_cons (em_pure fun _ => (ep_var rfl)) am_nil)) (fun _ _ => rfl) fun _ _ => rfl)) fun s => (.cons (.no _) (.cons (.no _) (.cons (.no _) (.cons (.no _) (.cons (.no _) (.cons (.no _) (.cons (.no _) (.cons (.no _) (.cons (.no _) (.cons (.no _) (.cons (.rfl _) (.cons (.rfl _) (.cons (.no _) (.cons (.no _) (.cons (.rfl _) .nil)))))))))))))))))) (rt_seq (rp_drop (em_of_eo (eo_callS (f := fun (z692 : Ref × (List (Int × Int)) × Unit) => (z692.1, z692.2.1)) (am_cons (em_pure fun _ => (ep_var rfl)) (am_cons (em_oplC (g := fun (u : (List (Int × Int))) (v : (List (Int × Int))) => (u ++ v)) (c := fun (u : (List (Int × Int))) (v : (List (Int × Int))) => lenOk (u.length + v.length)) (fun _ => (ep_sl (ep_var rfl) po_no (po_i (ep_var rfl)))) (em_lst (f := fun (z685 : (Int × Int) × Unit) => ([z685.1] : (List (Int × Int)))) (hl := fun _ => Nat.le_of_ble_eq_true rfl) (am_cons (em_tup (f := fun (z682 : Int × Int × Unit) => (z682.1, z682.2.1)) (am_cons (em_opr (g := fun (u : (Int × Int)) (_ : Int) => u.1) (em_ixLp (fun _ => (ep_var rfl)) fun _ => (ep_var rfl)) (fun _ => (ep_int (K := K))) fun _ => pr2_0) (am_cons (em_of_eo (eo_callS (f := fun (z677 : Ref × Bool × Unit) => (z677.1, z677.2.1)) (am_cons (em_pure fun _ => (ep_var rfl)) (am_cons (em_pure fun _ => (ep_bl (K := K))) am_nil)) (fun _ _ => rfl) fun _ _ => rfl)) am_nil)) fun z682 => tup2) am_nil)) fun _ h => (o_cat h)) am_nil)) (fun _ _ => rfl) fun _ _ => rfl))) fun u_693 => (rt_seq (rp_drop (em_of_eo (eo_callS (f := fun (z698 : Ref × Ref × Unit) => (z698.1, z698.2.1)) (am_cons (em_pure fun _ => (ep_var rfl)) (am_cons (em_pure fun _ => (ep_var rfl)) am_nil)) (fun _ _ => rfl) fun _ _ => rfl))) fun u_699 => (rt_ret (em_andV (em_of_eo (eo_callS (f := fun (z708 : Ref × Ref × Int × (List Int) × Unit) => (z708.1, z708.2.1, z708.2.2.1, z708.2.2.2.1)) (am_cons (em_pure fun _ => (ep_var rfl)) (am_cons (em_pure fun _ => (ep_var rfl)) (am_cons (em_pure fun _ => (ep_var rfl)) (am_cons (em_pure fun _ => (ep_lst (xs := ([z604.1, z604.2.1] : (List Int))) (hl := Nat.le_of_ble_eq_true rfl) (ap_cons (ep_var rfl) (ap_cons (ep_var rfl) ap_nil)))) am_nil)))) (fun _ _ => rfl) fun _ _ => rfl)) (em_of_eo (eo_callS (f := fun (z713 : Ref × Ref × Unit) => (z713.1, z713.2.1)) (am_cons (em_pure fun _ => (ep_var rfl)) (am_cons (em_pure fun _ => (ep_var rfl)) am_nil)) (fun _ _ => rfl) fun _ _ => rfl))) fun s => (.cons (.no _) (.cons (.no _) (.cons (.no _) (.cons (.no _) (.cons (.no _) (.cons (.no _) (.cons (.no _) (.cons (.no _) (.cons (.no _) (.cons (.no _) (.cons (.rfl _) (.cons (.rfl _) (.cons (.no _) (.cons (.no _) (.cons (.rfl _) .nil))))))))))))))))))))))))))))))) h⟩
theorem ok__law_change {f : Addr} {fd : FuncData} (F : FnP K "_law_change" (top 38) f fd) (hg : mg "_law_change" = some (.ref f)) (b_int : mg "int" = none) (b_len : mg "len" = none) (b_range : mg "range" = none) (b_repr : mg "repr" = none) (C__law_take : Cal P w K mg base 1 "_law_take" ["box", "many"] (sp__law_take K)) (C__law_passed : Cal P w K mg base 1 "_law_passed" ["view", "low"] (sp__law_passed K)) (C_three_steps : Cal P w K mg base 6 "three_steps" ["view", "new"] (sp_three_steps K)) (D_three_steps__new_view : CalK P w K mg base 6 "three_steps" ["view", "new"] (sp_three_steps K) ["new", "view"] gl_three_steps__new_view gv_three_steps__new_view) (C__law_written : Cal P w K mg base 1 "_law_written" ["world", "writes"] (sp__law_written K)) (C__law_rests : CalG P w K mg base 7 "_law_rests" ["box", "world"] (sp__law_rests K)) (C__law_content : Cal P w K mg base 2 "_law_content" ["box", "great"] (sp__law_content K)) (C__law_losses : Cal P w K mg base 2 "_law_losses" ["box", "world"] (sp__law_losses K)) (C__law_opened : CalG P w K mg base 8 "_law_opened" ["box", "world", "u", "pair"] (sp__law_opened K)) : CalG P w K mg base 9 "_law_change" ["box", "world"] (sp__law_change K) := ⟨f, fd, fo__law_change F b_int b_len b_range b_repr C__law_take C__law_passed C_three_steps D_three_steps__new_view C__law_written C__law_rests C__law_content C__law_losses C__law_opened, hg, F.kp, F.bindsN fun _ _ _ _ _ _ us hl => match us, hl with | [_, _], _ => rfl⟩
def m_law (script : Scr) : Mn (Sto K) Bool :=
  (mb (mb (mb (mu (m__law_cell script ((0 : Int) : Int))) fun x_715 => mb (mp ()) fun z716 => mp (x_715, z716)) fun z717 => (m__law_box z717.1)) fun box718 =>
  (mb (mb (mb (mb (mp box718) fun x_721 => mb (mb (mp ((8 : Int) : Int)) fun x_719 => mb (mp ()) fun z720 => mp (x_719, z720)) fun z722 => mp (x_721, z722)) fun z723 => (m__law_take z723.1 z723.2.1)) fun x_724 => mp (decide (x_724 = (0 : Int)))) fun great726 =>
  (mb (mb (mb (mb (mb (mp box718) fun x_729 => mb (mb (mp great726) fun x_727 => mb (mp ()) fun z728 => mp (x_727, z728)) fun z730 => mp (x_729, z730)) fun z731 => (m__law_new_row z731.1 z731.2.1)) fun x_739 => mb (mb (mb (mb (mp box718) fun x_734 => mb (mb (mp false) fun x_732 => mb (mp ()) fun z733 => mp (x_732, z733)) fun z735 => mp (x_734, z735)) fun z736 => (m__law_new_row z736.1 z736.2.1)) fun x_737 => mb (mp ()) fun z738 => mp (x_737, z738)) fun z740 => mp (x_739, z740)) fun z741 => mp ([z741.1, z741.2.1] : (List Ref))) fun worlds742 =>
  (mb (mb (mc (b62 ((if (if ((script.l.length : Nat) : Int) < (48 : Int) then ((script.l.length : Nat) : Int) else (48 : Int)) > (16 : Int) then (if ((script.l.length : Nat) : Int) < (48 : Int) then ((script.l.length : Nat) : Int) else (48 : Int)) else (16 : Int)) : Int)) (rng 0 ((if (if ((script.l.length : Nat) : Int) < (48 : Int) then ((script.l.length : Nat) : Int) else (48 : Int)) > (16 : Int) then (if ((script.l.length : Nat) : Int) < (48 : Int) then ((script.l.length : Nat) : Int) else (48 : Int)) else (16 : Int)) : Int).toNat)) fun xs => forC (β := Empty) xs worlds742 fun a744 (t743 : (List Ref)) =>
    (mb (mb (mb (mu (m__law_cell script ((a744 + (1 : Int)) : Int))) fun x_745 => mb (mp ()) fun z746 => mp (x_745, z746)) fun z747 => (m__law_box z747.1)) fun box748 =>
    (mb (mb (mb (mb (mp box748) fun x_751 => mb (mb (mp ((2 : Int) : Int)) fun x_749 => mb (mp ()) fun z750 => mp (x_749, z750)) fun z752 => mp (x_751, z752)) fun z753 => (m__law_take z753.1 z753.2.1)) fun x_762 => mb (mb (mb (mb (mp box748) fun x_756 => mb (mb (mp ((3 : Int) : Int)) fun x_754 => mb (mp ()) fun z755 => mp (x_754, z755)) fun z757 => mp (x_756, z757)) fun z758 => (m__law_take z758.1 z758.2.1)) fun x_760 => mb (mp ()) fun z761 => mp (x_760, z761)) fun z763 => mp (x_762, z763)) fun z759 =>
    (mb (mb (mb (mb (mb (mb (mb (mb (mp z759.1) fun i764 => mo (atI t743 i764)) fun r765 => mb (mp ("view" : Str)) fun i766 => mb (mldD r765) fun xs => mo ((getP xs (Ky.key i766)).bind (PyT.dec (α := Ref)))) fun r767 => mldT Int r767) fun xs => mp ((xs.length : Nat) : Int)) fun x_768 => mp (decide (x_768 = (2 : Int)))) fun b770 => mi b770 (mp (decide (z759.2.1 = (0 : Int)) && decide ((2 : Int) < a744))) (mp false)) fun b => mi b
    (mb (mb (mb (mb (mp box748) fun x_774 => mb (mb (mp false) fun x_772 => mb (mp ()) fun z773 => mp (x_772, z773)) fun z775 => mp (x_774, z775)) fun z776 => (m__law_new_row z776.1 z776.2.1)) fun x_778 => mb (mp z759.1) fun i779 => mo ((ixN t743.length i779).map fun k => t743.set k x_778)) fun worlds777 => mp worlds777)
    (mp t743)) fun t771 =>
    (mb (mb (mp (great726 && decide (a744 = (3 : Int)))) fun b => mi b
    (mb (mb (mb (mb (mp box748) fun x_783 => mb (mb (mp false) fun x_781 => mb (mp ()) fun z782 => mp (x_781, z782)) fun z784 => mp (x_783, z784)) fun z785 => (m__law_new_row z785.1 z785.2.1)) fun x_787 => mb (mp ((0 : Int) : Int)) fun i788 => mo ((ixN t771.length i788).map fun k => t771.set k x_787)) fun worlds786 => mp worlds786)
    (mp t771)) fun t780 =>
    (mb (mb (mb (mb (mb (mp box748) fun x_792 => mb (mb (mb (mp z759.1) fun i789 => mo (atI t780 i789)) fun x_790 => mb (mp ()) fun z791 => mp (x_790, z791)) fun z793 => mp (x_792, z793)) fun z794 => (m__law_change z794.1 z794.2.1)) fun b795 => mp (!b795)) fun b803 => mi b803 (mp true) (mb (mb (mb (mp box748) fun x_799 => mb (mb (mb (mp (((1 : Int) - z759.1) : Int)) fun i796 => mo (atI t780 i796)) fun x_797 => mb (mp ()) fun z798 => mp (x_797, z798)) fun z800 => mp (x_799, z800)) fun z801 => (m__law_rests z801.1 z801.2.1)) fun b802 => mp (!b802))) fun b => mi b
      (mb (mp false) fun x => mp (.rt x))
      (mp (.nx t780)))))))) (ctk (fun t804 => (mp true)) fun _ => mbad)))))
abbrev sp_law (K : PySem.W.Frag) : Sp := Prom (rIm K) (S := (Sto K)) (fun i : Scr => [.im (pv K i)]) fun i => m_law i
theorem len_law : ∀ vs H Q E, sp_law K vs H Q E → vs.length = 1 := prom_len (S := (Sto K)) (Ret := (rIm K)) (As := fun i : Scr => [.im (pv K i)]) (m := fun i => m_law i) fun _ => rfl
theorem sc_law : FnScope ["script", "box", "great", "worlds", "turn", "k", "again"] ["script"] (defScope (top 39)) := ⟨rfl, rfl, rfl, by decide +kernel, rfl, by decide +kernel, by decide +kernel⟩
theorem fo_law {f : Addr} {fd : FuncData} (F : FnP K "law" (top 39) f fd) (b_len : mg "len" = none) (b_max : mg "max" = none) (b_min : mg "min" = none) (b_range : mg "range" = none) (C__law_box : Cal P w K mg base 1 "_law_box" ["great"] (sp__law_box K)) (C__law_cell : Cal P w K mg base 1 "_law_cell" ["script", "k"] (sp__law_cell K)) (C__law_take : Cal P w K mg base 1 "_law_take" ["box", "many"] (sp__law_take K)) (C__law_new_row : Cal P w K mg base 2 "_law_new_row" ["box", "great"] (sp__law_new_row K)) (C__law_change : CalG P w K mg base 9 "_law_change" ["box", "world"] (sp__law_change K)) (C__law_rests : CalG P w K mg base 7 "_law_rests" ["box", "world"] (sp__law_rests K)) : FnG P w K mg base CX0 10 f fd ["script"] (sp_law K) := by
  obtain ⟨f__law_box, fd__law_box, G__law_box, g__law_box, kp__law_box, bi__law_box⟩ := C__law_box.ex
  obtain ⟨f__law_cell, fd__law_cell, G__law_cell, g__law_cell, kp__law_cell, bi__law_cell⟩ := C__law_cell.ex
  obtain ⟨f__law_take, fd__law_take, G__law_take, g__law_take, kp__law_take, bi__law_take⟩ := C__law_take.ex
  obtain ⟨f__law_new_row, fd__law_new_row, G__law_new_row, g__law_new_row, kp__law_new_row, bi__law_new_row⟩ := C__law_new_row.ex
  obtain ⟨f__law_change, fd__law_change, G__law_change, g__law_change, kp__law_change, bi__law_change⟩ := C__law_change.ex
  obtain ⟨f__law_rests, fd__law_rests, G__law_rests, g__law_rests, kp__law_rests, bi__law_rests⟩ := C__law_rests.ex
  refine okG F sc_law (len_law (K := K)) (fun cdv A outer s H vs Q E hgd hr h => ?_)
  have hl : vs.length = 1 := len_law (K := K) vs H Q E h
  match vs, hl, h with
  | [v0], _, h => exact ⟨_, PSs.nox ((pss_cons (ps_set (i := 1) sc_law.nd rfl (Or.inl rfl) (pe_call G__law_box (hr.mono (Nat.le_of_ble_eq_true rfl)) rfl g__law_box kp__law_box bi__law_box .nil pass0 (pa_cons (pe_call G__law_cell (hr.mono (Nat.le_of_ble_eq_true rfl)) rfl g__law_cell kp__law_cell bi__law_cell .nil pass0 (pa_cons (L2.pv 0) (pa_cons pe_int pa_nil))) pa_nil))) (pss_cons (ps_set (i := 2) sc_law.nd rfl (Or.inl rfl) (pe_cmpR op_eq (pe_call G__law_take (hr.mono (Nat.le_of_ble_eq_true rfl)) rfl g__law_take kp__law_take bi__law_take .nil pass0 (pa_cons (L2.pv 1) (pa_cons pe_int pa_nil))) pe_int (nomark _))) (pss_cons (ps_set (i := 3) sc_law.nd rfl (Or.inl rfl) (pe_lst (pa_cons (pe_call G__law_new_row (hr.mono (Nat.le_of_ble_eq_true rfl)) rfl g__law_new_row kp__law_new_row bi__law_new_row .nil pass0 (pa_cons (L2.pv 1) (pa_cons (L2.pv 2) pa_nil))) (pa_cons (pe_call G__law_new_row (hr.mono (Nat.le_of_ble_eq_true rfl)) rfl g__law_new_row kp__law_new_row bi__law_new_row .nil pass0 (pa_cons (L2.pv 1) (pa_cons pe_bl pa_nil))) pa_nil)))) (pss_cons (ps_for PassesOwn.never rfl (pi_range1 rfl b_range (pa_cons (pe_callB (call_max2 rfl) rfl b_max bt_max (pa_cons pe_int (pa_cons (pe_callB (call_min2 rfl) rfl b_min bt_min (pa_cons pe_int (pa_cons (pe_callB call_len_seq rfl b_len bt_len (pa_cons (L2.pv 0) pa_nil)) pa_nil))) pa_nil))) pa_nil)) (pg_name (i := 4) sc_law.nd rfl (Or.inl rfl)) (pss_cons (ps_set (i := 1) sc_law.nd rfl (Or.inl rfl) (pe_call G__law_box (hr.mono (Nat.le_of_ble_eq_true rfl)) rfl g__law_box kp__law_box bi__law_box .nil pass0 (pa_cons (pe_call G__law_cell (hr.mono (Nat.le_of_ble_eq_true rfl)) rfl g__law_cell kp__law_cell bi__law_cell .nil pass0 (pa_cons (L2.pv 0) (pa_cons (pe_op op_add (L2.pv 4) pe_int) pa_nil))) pa_nil))) (pss_cons (ps_par (i := 5) (j := 6) rfl sc_law.nd rfl rfl (by decide) rfl rfl (pa_cons (pe_call G__law_take (hr.mono (Nat.le_of_ble_eq_true rfl)) rfl g__law_take kp__law_take bi__law_take .nil pass0 (pa_cons (L2.pv 1) (pa_cons pe_int pa_nil))) (pa_cons (pe_call G__law_take (hr.mono (Nat.le_of_ble_eq_true rfl)) rfl g__law_take kp__law_take bi__law_take .nil pass0 (pa_cons (L2.pv 1) (pa_cons pe_int pa_nil))) pa_nil)) rfl) (pss_cons (ps_if (PW.pt (pw_and (pt_cmpR op_eq (pe_callB call_len_seq rfl b_len bt_len (pa_cons (pe_dget (hu1 hr) (pe_ix ix_list (L2.pv 3) (L2.pv 5) (fun _ _ => rfl)) pe_str (fun _ _ => rfl)) pa_nil)) pe_int (nomark _)) (pw_and (pt_cmpR op_eq (L2.pv 6) pe_int (nomark _)) (pw_and1 (pt_cmpR op_gt (L2.pv 4) pe_int (nomark _)))))) (pss_one (ps_asg (pe_call G__law_new_row (hr.mono (Nat.le_of_ble_eq_true rfl)) rfl g__law_new_row kp__law_new_row bi__law_new_row .nil pass0 (pa_cons (L2.pv 1) (pa_cons pe_bl pa_nil))) (pg_sub (L2.pv 3) (L2.pv 5) set_list))) pss_nil) (pss_cons (ps_if (PW.pt (pw_and (pt_val (L2.pv 2)) (pw_and1 (pt_cmpR op_eq (L2.pv 4) pe_int (nomark _))))) (pss_one (ps_asg (pe_call G__law_new_row (hr.mono (Nat.le_of_ble_eq_true rfl)) rfl g__law_new_row kp__law_new_row bi__law_new_row .nil pass0 (pa_cons (L2.pv 1) (pa_cons pe_bl pa_nil))) (pg_sub (L2.pv 3) pe_int set_list))) pss_nil) (pss_one (ps_if (PW.pt (pw_or (pt_not (pt_val (pe_callG G__law_change hgd (hr.mono (Nat.le_of_ble_eq_true rfl)) rfl g__law_change kp__law_change bi__law_change .nil pass0 (pa_cons (L2.pv 1) (pa_cons (pe_ix ix_list (L2.pv 3) (L2.pv 5) (fun _ _ => rfl)) pa_nil))))) (pw_or1 (pt_not (pt_val (pe_callG G__law_rests hgd (hr.mono (Nat.le_of_ble_eq_true rfl)) rfl g__law_rests kp__law_rests bi__law_rests .nil pass0 (pa_cons (L2.pv 1) (pa_cons (pe_ix ix_list (L2.pv 3) (pe_op op_sub pe_int (L2.pv 5)) (fun _ _ => rfl)) pa_nil)))))))) (pss_one (ps_ret pe_bl)) pss_nil))))))) (pss_one (ps_ret pe_bl))))))), prom_ok (n := 1) (S := (Sto K)) (Ret := (rIm K)) (As := fun i : Scr => [.im (pv K i)]) (m := fun i => m_law i) 6 (fun _ => rfl) rfl (fun script => (show RN (rIm K) _ (fun (s : (Sto K)) => [.im (pv K script), .no, .no, .no, .no, .no, .no]) (m_law script) (fun (s : (Sto K)) => [.no, .no, .no, .no, .no, .no, .no]) from (rn_of (rt_seq (rp_asg (Γ := fun (s : (Sto K)) => [.im (pv K script), .no, .no, .no, .no, .no, .no]) (i := 1) (Γ' := fun box718 (s : (Sto K)) => [.im (pv K script), .im (pv K box718), .no, .no, .no, .no, .no]) (em_of_eo (eo_callS (f := fun (z717 : Int × Unit) => z717.1) (am_cons (em_of_eo (eo_call0 (i := (script, ((0 : Int) : Int))) (ps := [pv K script, pv K ((0 : Int) : Int)]) (fun _ => (ap_cons (ep_var rfl) (ap_cons (ep_int (K := K)) ap_nil))) rfl)) am_nil) (fun _ _ => rfl) fun _ _ => rfl)) (fun _ => rfl) fun _ _ => rfl) fun box718 => (rt_seq (rp_asg (Γ := fun (s : (Sto K)) => [.im (pv K script), .im (pv K box718), .no, .no, .no, .no, .no]) (i := 2) (Γ' := fun great726 (s : (Sto K)) => [.im (pv K script), .im (pv K box718), .im (pv K great726), .no, .no, .no, .no]) (em_opr (g := fun (u : Int) (v : Int) => decide (u = v)) (em_of_eo (eo_callS (f := fun (z723 : Ref × Int × Unit) => (z723.1, z723.2.1)) (am_cons (em_pure fun _ => (ep_var rfl)) (am_cons (em_pure fun _ => (ep_int (K := K))) am_nil)) (fun _ _ => rfl) fun _ _ => rfl)) (fun _ => (ep_int (K := K))) fun _ => o_eq) (fun _ => rfl) fun _ _ => rfl) fun great726 => (rt_seq (rp_take (Γ := fun (s : (Sto K)) => [.im (pv K script), .im (pv K box718), .im (pv K great726), .no, .no, .no, .no]) (i := 3) (Γ' := fun worlds742 (s : (Sto K)) => [.im (pv K script), .im (pv K box718), .im (pv K great726), .ow (ol K worlds742), .no, .no, .no]) (eo_lstM (f := fun (z741 : Ref × Ref × Unit) => [z741.1, z741.2.1]) (hl := fun _ => Nat.le_of_ble_eq_true rfl) (am_cons (em_of_eo (eo_callS (f := fun (z731 : Ref × Bool × Unit) => (z731.1, z731.2.1)) (am_cons (em_pure fun _ => (ep_var rfl)) (am_cons (em_pure fun _ => (ep_var rfl)) am_nil)) (fun _ _ => rfl) fun _ _ => rfl)) (am_cons (em_of_eo (eo_callS (f := fun (z736 : Ref × Bool × Unit) => (z736.1, z736.2.1)) (am_cons (em_pure fun _ => (ep_var rfl)) (am_cons (em_pure fun _ => (ep_bl (K := K))) am_nil)) (fun _ _ => rfl) fun _ _ => rfl)) am_nil))) (fun _ => rfl) (fun _ => Nat.le_of_ble_eq_true rfl) fun _ _ => rfl) fun worlds742 => (rt_seqC (rc_for (β := Empty) (Γb := fun b _ => nomatch b) (Γr := (fun (s : (Sto K)) => [.no, .no, .no, .no, .no, .no, .no])) (ΓL := fun (t743 : (List Ref)) (s : (Sto K)) => [.im (pv K script), .no, .im (pv K great726), .ow (ol K t743), .no, .no, .no]) (Γx := fun (a744 : Int) (t743 : (List Ref)) (s : (Sto K)) => [.im (pv K script), .no, .im (pv K great726), .ow (ol K t743), .im (pv K a744), .no, .no]) (im_rng1 fun _ => (ap_cons (ep_cb (ap_cons (ep_int (K := K)) (ap_cons (ep_cb (ap_cons (ep_int (K := K)) (ap_cons (ep_cb (ap_cons (ep_var rfl) ap_nil) c_lenS) ap_nil)) c_min2) ap_nil)) c_max2) ap_nil)) (fun s => (.cons (.rfl _) (.cons (.no _) (.cons (.rfl _) (.cons (.rfl _) (.cons (.rfl _) (.cons (.rfl _) (.cons (.rfl _) .nil)))))))) (fun a744 t743 s => (gt_name (Γ := [.im (pv K script), .no, .im (pv K great726), .ow (ol K t743), .no, .no, .no]) (i := 4) (Γ' := [.im (pv K script), .no, .im (pv K great726), .ow (ol K t743), .im (pv K a744), .no, .no]) rfl rfl)) fun a744 t743 => (rc_seqP (rp_asg (Γ := fun (s : (Sto K)) => [.im (pv K script), .no, .im (pv K great726), .ow (ol K t743), .im (pv K a744), .no, .no]) (i := 1) (Γ' := fun box748 (s : (Sto K)) => [.im (pv K script), .im (pv K box748), .im (pv K great726), .ow (ol K t743), .im (pv K a744), .no, .no]) (em_of_eo (eo_callS (f := fun (z747 : Int × Unit) => z747.1) (am_cons (em_of_eo (eo_call0 (i := (script, ((a744 + (1 : Int)) : Int))) (ps := [pv K script, pv K ((a744 + (1 : Int)) : Int)]) (fun _ => (ap_cons (ep_var rfl) (ap_cons (ep_op (ep_var rfl) (ep_int (K := K)) o_add) ap_nil))) rfl)) am_nil) (fun _ _ => rfl) fun _ _ => rfl)) (fun _ => rfl) fun _ _ => rfl) fun box748 => (rc_seqP (rp_asg2 (Γ' := fun (z759 : Int × Int × Unit) (s : (Sto K)) => [.im (pv K script), .im (pv K box748), .im (pv K great726), .ow (ol K t743), .im (pv K a744), .im (pv K z759.1), .im (pv K z759.2.1)]) (ao_m (em_of_eo (eo_callS (f := fun (z753 : Ref × Int × Unit) => (z753.1, z753.2.1)) (am_cons (em_pure fun _ => (ep_var rfl)) (am_cons (em_pure fun _ => (ep_int (K := K))) am_nil)) (fun _ _ => rfl) fun _ _ => rfl)) (ao_m (em_of_eo (eo_callS (f := fun (z758 : Ref × Int × Unit) => (z758.1, z758.2.1)) (am_cons (em_pure fun _ => (ep_var rfl)) (am_cons (em_pure fun _ => (ep_int (K := K))) am_nil)) (fun _ _ => rfl) fun _ _ => rfl)) ao_nil)) (fun _ => asg_ok rfl) (fun _ => rfl) (fun _ => rfl) fun _ _ => rfl) fun z759 => (rc_seqP (rp_if (Γ' := fun t771 (s : (Sto K)) => [.im (pv K script), .im (pv K box748), .im (pv K great726), .ow (ol K t771), .im (pv K a744), .im (pv K z759.1), .im (pv K z759.2.1)]) (tm_and (tm_test (em_opr (g := fun (u : Int) (v : Int) => decide (u = v)) (em_cbV (f := fun xs : (List Int) => ((xs.length : Nat) : Int)) (ev_ref (em_dget (em_ixO (j := 3) (fun _ => rfl) (em_pure fun _ => (ep_var rfl))) (em_pure fun _ => ep_str))) fun _ => c_lenL) (fun _ => (ep_int (K := K))) fun _ => o_eq)) (tm_pure fun _ => (tp_and (tp_test (ep_op (ep_var rfl) (ep_int (K := K)) o_eq)) fun _ => (tp_test (ep_op (ep_var rfl) (ep_int (K := K)) o_gt))))) (rp_post (f := fun worlds777 => worlds777) (rp_seti (Γ' := fun worlds777 (s : (Sto K)) => [.im (pv K script), .im (pv K box748), .im (pv K great726), .ow (ol K worlds777), .im (pv K a744), .im (pv K z759.1), .im (pv K z759.2.1)]) (fun _ => rfl) (em_of_eo (eo_callS (f := fun (z776 : Ref × Bool × Unit) => (z776.1, z776.2.1)) (am_cons (em_pure fun _ => (ep_var rfl)) (am_cons (em_pure fun _ => (ep_bl (K := K))) am_nil)) (fun _ _ => rfl) fun _ _ => rfl)) (em_pure fun _ => (ep_var rfl)) fun _ _ => rfl) fun worlds777 s => (.cons (.rfl _) (.cons (.rfl _) (.cons (.rfl _) (.cons (.rfl _) (.cons (.rfl _) (.cons (.rfl _) (.cons (.rfl _) .nil)))))))) (rp_next (x := t743) fun s => (.cons (.rfl _) (.cons (.rfl _) (.cons (.rfl _) (.cons (.rfl _) (.cons (.rfl _) (.cons (.rfl _) (.cons (.rfl _) .nil))))))))) fun t771 => (rc_seqP (rp_if (Γ' := fun t780 (s : (Sto K)) => [.im (pv K script), .im (pv K box748), .im (pv K great726), .ow (ol K t780), .im (pv K a744), .im (pv K z759.1), .im (pv K z759.2.1)]) (tm_pure fun _ => (tp_and (tp_B (ep_var rfl)) fun _ => (tp_test (ep_op (ep_var rfl) (ep_int (K := K)) o_eq)))) (rp_post (f := fun worlds786 => worlds786) (rp_seti (Γ' := fun worlds786 (s : (Sto K)) => [.im (pv K script), .im (pv K box748), .im (pv K great726), .ow (ol K worlds786), .im (pv K a744), .im (pv K z759.1), .im (pv K z759.2.1)]) (fun _ => rfl) (em_of_eo (eo_callS (f := fun (z785 : Ref × Bool × Unit) => (z785.1, z785.2.1)) (am_cons (em_pure fun _ => (ep_var rfl)) (am_cons (em_pure fun _ => (ep_bl (K := K))) am_nil)) (fun _ _ => rfl) fun _ _ => rfl)) (em_pure fun _ => (ep_int (K := K))) fun _ _ => rfl) fun worlds786 s => (.cons (.rfl _) (.cons (.rfl _) (.cons (.rfl _) (.cons (.rfl _) (.cons (.rfl _) (.cons (.rfl _) (.cons (.rfl _) .nil)))))))) (rp_next (x := t771) fun s => (.cons (.rfl _) (.cons (.rfl _) (.cons (.rfl _) (.cons (.rfl _) (.cons (.rfl _) (.cons (.rfl _) (.cons (.rfl _) .nil))))))))) fun t780 => (rc_if (tm_or (tm_not (tm_B (em_of_eo (eo_callS (f := fun (z794 : Ref × Ref × Unit) => (z794.1, z794.2.1)) (am_cons (em_pure fun _ => (ep_var rfl)) (am_cons (em_ixO (j := 3) (fun _ => rfl) (em_pure fun _ => (ep_var rfl))) am_nil)) (fun _ _ => rfl) fun _ _ => rfl)))) (tm_not (tm_B (em_of_eo (eo_callS (f := fun (z801 : Ref × Ref × Unit) => (z801.1, z801.2.1)) (am_cons (em_pure fun _ => (ep_var rfl)) (am_cons (em_ixO (j := 3) (fun _ => rfl) (em_pure fun _ => (ep_op (ep_int (K := K)) (ep_var rfl) o_sub))) am_nil)) (fun _ _ => rfl) fun _ _ => rfl))))) (rc_of_x (rx_ret (rt_ret (em_pure fun _ => (ep_bl (K := K))) fun s => (.cons (.no _) (.cons (.no _) (.cons (.no _) (.cons (.drop _) (.cons (.no _) (.cons (.no _) (.cons (.no _) .nil)))))))))) (rc_of_p (rp_next (x := t780) fun s => (.cons (.rfl _) (.cons (.no _) (.cons (.rfl _) (.cons (.rfl _) (.cons (.no _) (.cons (.no _) (.cons (.no _) .nil))))))))))))))) fun t804 => (rt_ret (em_pure fun _ => (ep_bl (K := K))) fun s => (.cons (.no _) (.cons (.rfl _) (.cons (.no _) (.cons (.drop _) (.cons (.rfl _) (.cons (.rfl _) (.cons (.rfl _) .nil))))))))))))))) h⟩
theorem ok_law {f : Addr} {fd : FuncData} (F : FnP K "law" (top 39) f fd) (hg : mg "law" = some (.ref f)) (b_len : mg "len" = none) (b_max : mg "max" = none) (b_min : mg "min" = none) (b_range : mg "range" = none) (C__law_box : Cal P w K mg base 1 "_law_box" ["great"] (sp__law_box K)) (C__law_cell : Cal P w K mg base 1 "_law_cell" ["script", "k"] (sp__law_cell K)) (C__law_take : Cal P w K mg base 1 "_law_take" ["box", "many"] (sp__law_take K)) (C__law_new_row : Cal P w K mg base 2 "_law_new_row" ["box", "great"] (sp__law_new_row K)) (C__law_change : CalG P w K mg base 9 "_law_change" ["box", "world"] (sp__law_change K)) (C__law_rests : CalG P w K mg base 7 "_law_rests" ["box", "world"] (sp__law_rests K)) : CalG P w K mg base 10 "law" ["script"] (sp_law K) := ⟨f, fd, fo_law F b_len b_max b_min b_range C__law_box C__law_cell C__law_take C__law_new_row C__law_change C__law_rests, hg, F.kp, F.bindsN fun _ _ _ _ _ _ us hl => match us, hl with | [_], _ => rfl⟩
end
end L40

namespace L40
open PySem L2 Mir Num
/-! what a change leaves: plain -/
def nx (u : Int) : Int := (u + 1) % 3
def fm (xs : List Int) (u : Int) : Bool := decide (((xs.length : Nat) : Int) - 1 ≤ (((xs.takeWhile fun c => decide (c = nx u)).length : Nat) : Int) + (((xs.reverse.takeWhile fun c => decide (c = u)).length : Nat) : Int))
/-- ahead of some index next to u, behind it u -/
def W (xs : List Int) (u : Int) : Prop := ∃ k, k < xs.length ∧ ∀ i, i < xs.length → (i < k → xs.getD i 0 = nx u) ∧ (k < i → xs.getD i 0 = u)
theorem tw_ge {p : Int → Bool} : ∀ {xs : List Int} {k : Nat}, k ≤ xs.length → (∀ i, i < k → p (xs.getD i 0) = true) → k ≤ (xs.takeWhile p).length
  | [], k, h, _ => by simp at h; omega
  | x :: xs, 0, _, _ => Nat.zero_le _
  | x :: xs, k + 1, h, q => by
    have h0 : p x = true := q 0 (Nat.succ_pos _)
    rw [List.takeWhile_cons, if_pos h0, List.length_cons]
    exact Nat.succ_le_succ (tw_ge (Nat.le_of_succ_le_succ h) fun i hi => q (i + 1) (Nat.succ_lt_succ hi))
theorem tw_lt {p : Int → Bool} : ∀ {xs : List Int} {i : Nat}, i < (xs.takeWhile p).length → p (xs.getD i 0) = true
  | [], i, h => by simp at h
  | x :: xs, i, h => by
    rw [List.takeWhile_cons] at h
    by_cases g : p x = true
    · rw [if_pos g, List.length_cons] at h
      cases i with
      | zero => exact g
      | succ i => exact tw_lt (xs := xs) (Nat.lt_of_succ_lt_succ h)
    · rw [if_neg g] at h
      simp at h
theorem tw_le {p : Int → Bool} (xs : List Int) : (xs.takeWhile p).length ≤ xs.length := (List.takeWhile_sublist p).length_le
theorem gd {xs : List Int} {i : Nat} (h : i < xs.length) : xs.getD i 0 = xs[i] := by rw [List.getD_eq_getElem?_getD, List.getElem?_eq_getElem h]; rfl
theorem rev_gd {xs : List Int} {i : Nat} (h : i < xs.length) : xs.reverse.getD i 0 = xs.getD (xs.length - 1 - i) 0 := by
  rw [gd (by rw [List.length_reverse]; exact h), gd (by omega), List.getElem_reverse]
theorem fm_W {xs : List Int} {u : Int} (h : 0 < xs.length) : fm xs u = true ↔ W xs u := by
  unfold fm
  rw [decide_eq_true_eq]
  constructor
  · intro g
    have l1 := tw_le (p := fun c => decide (c = nx u)) xs
    refine ⟨min (xs.takeWhile fun c => decide (c = nx u)).length (xs.length - 1), by omega, fun i hi => ⟨fun a => ?_, fun a => ?_⟩⟩
    · exact of_decide_eq_true (tw_lt (p := fun c => decide (c = nx u)) (xs := xs) (by omega))
    · have := tw_lt (p := fun c => decide (c = u)) (xs := xs.reverse) (i := xs.length - 1 - i) (by omega)
      rw [rev_gd (by omega), show xs.length - 1 - (xs.length - 1 - i) = i by omega] at this
      exact of_decide_eq_true this
  · rintro ⟨k, hk, q⟩
    have h1 : k ≤ (xs.takeWhile fun c => decide (c = nx u)).length := tw_ge (by omega) fun i hi => decide_eq_true ((q i (by omega)).1 hi)
    have h2 : xs.length - 1 - k ≤ (xs.reverse.takeWhile fun c => decide (c = u)).length := tw_ge (by rw [List.length_reverse]; omega) fun i hi => by
      rw [rev_gd (by omega)]
      exact decide_eq_true ((q _ (by omega)).2 (by omega))
    omega
def lb (xs : List Int) : List Int := (rng 0 3).filter (fm xs)
def ix (xs : List Int) (v : Int) : List Int := (rng 0 xs.length).filter fun i => !decide (xs.getD i.toNat 0 = v)
def df (xs : List Int) (v : Int) : List (Int × Int) := (ix xs v).map fun i => (i, v)
def r2 (a b : Int) : Int × List (Int × Int) := if 2 < a then (b, [(0, b)]) else if 2 < b ∨ a = nx b then (a, [(1, a)]) else (3 - a - b, [])
def con (xs : List Int) : Bool := xs.all fun c => decide (c = xs.getD 0 0)
def rd (xs : List Int) : Int × List (Int × Int) :=
  if con xs = true then (xs.getD 0 0, []) else if xs.length = 2 then r2 (xs.getD 0 0) (xs.getD 1 0) else (nx ((lb xs).getD 0 0), df xs (nx ((lb xs).getD 0 0)))
/-- contents -/
def Vs (xs : List Int) : Prop := 2 ≤ xs.length ∧ xs.length ≤ 64 ∧ ∀ x ∈ xs, 0 ≤ x ∧ x ≤ 996
theorem con_iff {xs : List Int} : con xs = true ↔ ∀ i, i < xs.length → xs.getD i 0 = xs.getD 0 0 := by
  unfold con
  rw [List.all_eq_true]
  constructor
  · intro h i hi
    have := h _ (List.getElem_mem hi)
    rw [gd hi]
    exact of_decide_eq_true this
  · intro h x hx
    obtain ⟨i, hi, e⟩ := List.mem_iff_getElem.mp hx
    have := h i hi
    rw [gd hi, e] at this
    exact decide_eq_true this
theorem lb_mem {xs : List Int} {u : Int} (h : 0 < xs.length) : u ∈ lb xs ↔ (0 ≤ u ∧ u < 3) ∧ W xs u := by
  unfold lb
  rw [List.mem_filter, mem_rng, fm_W h]
  exact ⟨fun ⟨a, b⟩ => ⟨⟨a.1, by omega⟩, b⟩, fun ⟨a, b⟩ => ⟨⟨a.1, by omega⟩, b⟩⟩
theorem lb_hd {xs : List Int} {u : Int} (h : 0 < xs.length) (u0 : 0 ≤ u) (u1 : u < 3) (w : W xs u) : ∃ x ys, lb xs = x :: ys ∧ 0 ≤ x ∧ x < 3 ∧ W xs x := by
  have hm := (lb_mem (u := u) h).mpr ⟨⟨u0, u1⟩, w⟩
  cases e : lb xs with
  | nil => rw [e] at hm; cases hm
  | cons x ys =>
    have := (lb_mem (xs := xs) (u := x) h).mp (by rw [e]; exact List.mem_cons_self ..)
    exact ⟨x, ys, rfl, this.1.1, this.1.2, this.2⟩
theorem nx_lo (u : Int) : 0 ≤ nx u ∧ nx u < 3 := by unfold nx; omega
theorem W_uniq {xs : List Int} {u u' : Int} (h : 3 ≤ xs.length) (u0 : 0 ≤ u) (u1 : u < 3) (v0 : 0 ≤ u') (v1 : u' < 3) (w : W xs u) (w' : W xs u') (hc : con xs = false) : u = u' := by
  obtain ⟨k, hk, q⟩ := w
  obtain ⟨k', hk', q'⟩ := w'
  apply Classical.byContradiction
  intro ne
  have hn : nx u ≠ nx u' := by unfold nx; omega
  have a1 : ¬ (0 < k ∧ 0 < k') := fun ⟨a, b⟩ => hn (((q 0 (by omega)).1 a).symm.trans ((q' 0 (by omega)).1 b))
  have a2 : ¬ (k < xs.length - 1 ∧ k' < xs.length - 1) := fun ⟨a, b⟩ => ne (((q (xs.length - 1) (by omega)).2 a).symm.trans ((q' (xs.length - 1) (by omega)).2 b))
  have : con xs = true := con_iff.mpr fun i hi => by
    by_cases i0 : i = 0
    · rw [i0]
    · rcases Nat.lt_or_ge 0 k with g | g
      · have e1 : k' = 0 := by omega
        have e2 : k = xs.length - 1 := by omega
        have b1 := (q' 1 (by omega)).2 (by omega)
        have b2 := (q 1 (by omega)).1 (by omega)
        have b3 := (q 0 (by omega)).1 (by omega)
        have b4 := (q' i hi).2 (by omega)
        rw [b4, b3, ← b1, b2]
      · have e1 : k = 0 := by omega
        have e2 : k' = xs.length - 1 := by omega
        have b1 := (q 1 (by omega)).2 (by omega)
        have b2 := (q' 1 (by omega)).1 (by omega)
        have b3 := (q' 0 (by omega)).1 (by omega)
        have b4 := (q i hi).2 (by omega)
        rw [b4, b3, ← b1, b2]
  rw [hc] at this
  cases this
theorem rd_val {xs : List Int} {u : Int} (h : Vs xs) (u0 : 0 ≤ u) (u1 : u < 3) (w : W xs u) : (rd xs).1 = u ∨ (rd xs).1 = nx u := by
  obtain ⟨h1, h2, h3⟩ := h
  have w' := w
  obtain ⟨k, hk, q⟩ := w
  unfold rd
  cases hc : con xs with
  | true =>
    rw [if_pos rfl]
    have c := con_iff.mp hc
    rcases Nat.lt_or_ge 0 k with g | g
    · exact .inr ((q 0 (by omega)).1 g)
    · have := (q 1 (by omega)).2 (by omega)
      exact .inl ((c 1 (by omega)).symm.trans this)
  | false =>
    rw [if_neg (by decide)]
    by_cases hl : xs.length = 2
    · rw [if_pos hl]
      have m0 := h3 _ (List.getElem_mem (show 0 < xs.length by omega))
      have m1 := h3 _ (List.getElem_mem (show 1 < xs.length by omega))
      rw [← gd] at m0 m1
      have hne : xs.getD 1 0 ≠ xs.getD 0 0 := fun e => by
        have : con xs = true := con_iff.mpr fun i hi => by
          have : i = 0 ∨ i = 1 := by omega
          rcases this with rfl | rfl
          · rfl
          · exact e
        rw [hc] at this
        cases this
      have hh : xs.getD 0 0 = nx u ∨ xs.getD 1 0 = u := by
        rcases Nat.lt_or_ge 0 k with g | g
        · exact .inl ((q 0 (by omega)).1 g)
        · exact .inr ((q 1 (by omega)).2 (by omega))
      generalize xs.getD 0 0 = a at *
      generalize xs.getD 1 0 = b at *
      unfold r2
      unfold nx at *
      split
      · dsimp only; omega
      · split
        · dsimp only; omega
        · dsimp only; omega
    · rw [if_neg hl]
      obtain ⟨x, ys, e, x0, x1, xw⟩ := lb_hd (by omega) u0 u1 w'
      rw [e]
      have := W_uniq (by omega) u0 u1 x0 x1 w' xw hc
      right
      rw [this]
      rfl
/-! writes -/
def wr (xs : List Int) (ws : List (Int × Int)) : List Int := ws.foldl (fun xs w => xs.set w.1.toNat w.2) xs
theorem wr_len : ∀ {ws : List (Int × Int)} {xs : List Int}, (wr xs ws).length = xs.length
  | [], _ => rfl
  | w :: ws, xs => by
    show (wr (xs.set w.1.toNat w.2) ws).length = _
    rw [wr_len, List.length_set]
theorem set_gd {xs : List Int} {k j : Nat} {v : Int} (h : j < xs.length) : (xs.set k v).getD j 0 = if j = k then v else xs.getD j 0 := by
  rw [gd (by rw [List.length_set]; exact h), gd h, List.getElem_set]
  by_cases e : j = k
  · rw [if_pos e, if_pos e.symm]
  · rw [if_neg e, if_neg fun g => e g.symm]
theorem wr_gd {v : Int} : ∀ {L : List Int} {xs : List Int} {j : Nat}, (∀ x ∈ L, 0 ≤ x) → j < xs.length → (wr xs (L.map fun i => (i, v))).getD j 0 = if (j : Int) ∈ L then v else xs.getD j 0
  | [], xs, j, _, _ => by rw [if_neg (by simp)]; rfl
  | x :: L, xs, j, h, hj => by
    show (wr (xs.set x.toNat v) (L.map fun i => (i, v))).getD j 0 = _
    have hx := h x (List.mem_cons_self ..)
    rw [wr_gd (fun y hy => h y (List.mem_cons_of_mem _ hy)) (by rw [List.length_set]; exact hj), set_gd hj]
    by_cases e : (j : Int) ∈ L
    · rw [if_pos e, if_pos (List.mem_cons_of_mem _ e)]
    · rw [if_neg e]
      by_cases g : j = x.toNat
      · rw [if_pos g, if_pos (List.mem_cons.mpr (.inl (by omega)))]
      · rw [if_neg g, if_neg fun m => (List.mem_cons.mp m).elim (fun m => g (by omega)) e]
theorem wr_app {xs : List Int} {as bs : List (Int × Int)} : wr xs (as ++ bs) = wr (wr xs as) bs := List.foldl_append ..
theorem ix_mem {xs : List Int} {v x : Int} : x ∈ ix xs v ↔ 0 ≤ x ∧ x < (xs.length : Nat) ∧ xs.getD x.toNat 0 ≠ v := by
  unfold ix
  rw [List.mem_filter, mem_rng]
  simp
  omega
theorem ix_pw {xs : List Int} {v : Int} : (ix xs v).Pairwise (· < ·) := List.Pairwise.filter _ rng_pw
theorem cutPw {R : Int → Int → Prop} {L : List Int} {k : Nat} (h : L.Pairwise R) (hk : k < L.length) : ∃ A x B, L = A ++ x :: B ∧ L.take k = A ∧ L[k] = x ∧ (∀ a ∈ A, R a x) ∧ ∀ b ∈ B, R x b := by
  have e : L = L.take k ++ L[k] :: L.drop (k + 1) := by rw [← List.drop_eq_getElem_cons hk, List.take_append_drop]
  refine ⟨_, _, _, e, rfl, rfl, ?_⟩
  rw [e, List.pairwise_append, List.pairwise_cons] at h
  exact ⟨fun a ha => h.2.2 a ha _ (List.mem_cons_self ..), h.2.1.1⟩
/-- written in order, all but one -/
theorem torn_up {xs : List Int} {u t : Int} {k : Nat} (hk : k < (ix xs (nx u)).length) (H : ∀ x ∈ ix xs (nx u), ∀ j : Nat, j < xs.length → x < j → xs.getD j 0 = u) : W ((wr xs (((ix xs (nx u)).take k).map fun i => (i, nx u))).set ((ix xs (nx u))[k]).toNat t) u := by
  obtain ⟨A, x, B, e, eA, ex, hA, hB⟩ := cutPw ix_pw hk
  rw [eA, ex]
  have hx : x ∈ ix xs (nx u) := by rw [e]; simp
  have x0 := ix_mem.mp hx
  have hl : ((wr xs (A.map fun i => (i, nx u))).set x.toNat t).length = xs.length := by rw [List.length_set, wr_len]
  have n0 : ∀ a ∈ A, 0 ≤ a := fun a ha => (ix_mem.mp (by rw [e]; exact List.mem_append_left _ ha)).1
  refine ⟨x.toNat, by omega, fun i hi => ?_⟩
  rw [hl] at hi
  rw [set_gd (by rw [wr_len]; exact hi), wr_gd n0 hi]
  refine ⟨fun g => ?_, fun g => ?_⟩
  · rw [if_neg (by omega)]
    by_cases m : (i : Int) ∈ A
    · rw [if_pos m]
    · rw [if_neg m]
      apply Classical.byContradiction
      intro ne
      have : (i : Int) ∈ ix xs (nx u) := ix_mem.mpr ⟨by omega, by omega, by rw [Int.toNat_natCast]; exact ne⟩
      rw [e] at this
      rcases List.mem_append.mp this with c | c
      · exact m c
      · rcases List.mem_cons.mp c with c | c
        · omega
        · have := hB _ c; omega
  · rw [if_neg (by omega), if_neg fun m => by have := hA _ m; omega]
    exact H x hx i hi (by omega)
theorem torn_dn {xs : List Int} {u t : Int} {k : Nat} (hk : k < (ix xs u).reverse.length) (H : ∀ x ∈ ix xs u, ∀ j : Nat, j < xs.length → (j : Int) < x → xs.getD j 0 = nx u) : W ((wr xs (((ix xs u).reverse.take k).map fun i => (i, u))).set ((ix xs u).reverse[k]).toNat t) u := by
  obtain ⟨A, x, B, e, eA, ex, hA, hB⟩ := cutPw (R := fun a b => b < a) (List.pairwise_reverse.mpr ix_pw) hk
  rw [eA, ex]
  have mr : ∀ y, y ∈ ix xs u ↔ y ∈ A ++ x :: B := fun y => by rw [← e, List.mem_reverse]
  have hx : x ∈ ix xs u := (mr x).mpr (by simp)
  have x0 := ix_mem.mp hx
  have hl : ((wr xs (A.map fun i => (i, u))).set x.toNat t).length = xs.length := by rw [List.length_set, wr_len]
  have n0 : ∀ a ∈ A, 0 ≤ a := fun a ha => (ix_mem.mp ((mr a).mpr (List.mem_append_left _ ha))).1
  refine ⟨x.toNat, by omega, fun i hi => ?_⟩
  rw [hl] at hi
  rw [set_gd (by rw [wr_len]; exact hi), wr_gd n0 hi]
  refine ⟨fun g => ?_, fun g => ?_⟩
  · rw [if_neg (by omega), if_neg fun m => by have := hA _ m; omega]
    exact H x hx i hi (by omega)
  · rw [if_neg (by omega)]
    by_cases m : (i : Int) ∈ A
    · rw [if_pos m]
    · rw [if_neg m]
      apply Classical.byContradiction
      intro ne
      have : (i : Int) ∈ ix xs u := ix_mem.mpr ⟨by omega, by omega, by rw [Int.toNat_natCast]; exact ne⟩
      rcases List.mem_append.mp ((mr _).mp this) with c | c
      · exact m c
      · rcases List.mem_cons.mp c with c | c
        · omega
        · have := hB _ c; omega
/-- written whole -/
theorem full_ix {xs L : List Int} {v : Int} (hL : ∀ x, x ∈ L ↔ x ∈ ix xs v) {j : Nat} (hj : j < xs.length) : (wr xs (L.map fun i => (i, v))).getD j 0 = v := by
  rw [wr_gd (fun x hx => (ix_mem.mp ((hL x).mp hx)).1) hj]
  by_cases m : (j : Int) ∈ L
  · rw [if_pos m]
  · rw [if_neg m]
    apply Classical.byContradiction
    intro ne
    exact m ((hL _).mpr (ix_mem.mpr ⟨by omega, by omega, by rw [Int.toNat_natCast]; exact ne⟩))
/-- one disk is lost -/
theorem er_gd {xs : List Int} {i j : Nat} (hi : i < xs.length) (hj : j < xs.length - 1) : (xs.eraseIdx i).getD j 0 = if j < i then xs.getD j 0 else xs.getD (j + 1) 0 := by
  have hl : (xs.eraseIdx i).length = xs.length - 1 := by rw [List.length_eraseIdx, if_pos hi]
  rw [gd (by omega), List.getElem_eraseIdx]
  by_cases g : j < i
  · rw [dif_pos g, if_pos g, gd]
  · rw [dif_neg g, if_neg g, gd]
theorem W_lost {xs : List Int} {u : Int} {i : Nat} (h : 3 ≤ xs.length) (hi : i < xs.length) (w : W xs u) : W (xs.eraseIdx i) u := by
  obtain ⟨k, hk, q⟩ := w
  have hl : (xs.eraseIdx i).length = xs.length - 1 := by rw [List.length_eraseIdx, if_pos hi]
  refine ⟨if i < k then k - 1 else min k (xs.length - 2), by rw [hl]; split <;> omega, fun j hj => ?_⟩
  rw [hl] at hj
  rw [er_gd hi hj]
  have q1 := q j (by omega)
  have q2 := q (j + 1) (by omega)
  by_cases g : i < k
  · rw [if_pos g]
    refine ⟨fun a => ?_, fun a => ?_⟩
    · split
      · exact q1.1 (by omega)
      · exact q2.1 (by omega)
    · rw [if_neg (by omega)]
      exact q2.2 (by omega)
  · rw [if_neg g]
    refine ⟨fun a => ?_, fun a => ?_⟩
    · rw [if_pos (by omega)]
      exact q1.1 (by omega)
    · split
      · exact q1.2 (by omega)
      · exact q2.2 (by omega)
theorem vs_lost {xs : List Int} {i : Nat} (h : 3 ≤ xs.length) (v : Vs xs) : Vs (xs.eraseIdx i) := by
  obtain ⟨h1, h2, h3⟩ := v
  have := List.length_eraseIdx_le xs i
  refine ⟨?_, by omega, fun x hx => h3 x (List.mem_of_mem_eraseIdx hx)⟩
  rw [List.length_eraseIdx]
  split <;> omega
theorem vs_set {xs : List Int} {i : Nat} {t : Int} (v : Vs xs) (h0 : 0 ≤ t) (h1 : t ≤ 996) : Vs (xs.set i t) := by
  obtain ⟨g1, g2, g3⟩ := v
  refine ⟨by rw [List.length_set]; exact g1, by rw [List.length_set]; exact g2, fun x hx => ?_⟩
  rcases List.mem_or_eq_of_mem_set hx with q | q
  · exact g3 x q
  · rw [q]; exact ⟨h0, h1⟩
theorem vs_wr : ∀ {ws : List (Int × Int)} {xs : List Int}, Vs xs → (∀ w ∈ ws, 0 ≤ w.2 ∧ w.2 ≤ 996) → Vs (wr xs ws)
  | [], _, v, _ => v
  | w :: ws, xs, v, h => vs_wr (ws := ws) (vs_set v (h w (List.mem_cons_self ..)).1 (h w (List.mem_cons_self ..)).2) fun y hy => h y (List.mem_cons_of_mem _ hy)
end L40

namespace L40
open PySem L2 Mir Num
/-! at rest; mendings; changes: plain -/
def Rest (xs : List Int) (v : Int) : Prop := (0 ≤ v ∧ v < 3) ∧ ((∀ i, i < xs.length → xs.getD i 0 = v) ∨ (xs.length = 2 ∧ ∃ b, (0 ≤ b ∧ b < 3) ∧ xs.getD 0 0 = b ∧ xs.getD 1 0 = nx b ∧ v = nx (nx b)))
theorem nx3 {u : Int} (h0 : 0 ≤ u) (h1 : u < 3) : nx (nx (nx u)) = u ∧ nx u ≠ u ∧ nx (nx u) ≠ u ∧ nx (nx u) ≠ nx u := by unfold nx; omega
theorem rest_rd {xs : List Int} {v : Int} (h : Vs xs) (r : Rest xs v) : rd xs = (v, []) := by
  obtain ⟨⟨v0, v1⟩, r | ⟨hl, b, ⟨b0, b1⟩, e0, e1, rfl⟩⟩ := r
  · unfold rd
    have : con xs = true := con_iff.mpr fun i hi => by rw [r i hi, r 0 (by have := h.1; omega)]
    rw [if_pos this, r 0 (by have := h.1; omega)]
  · unfold rd
    have n := nx3 b0 b1
    have : con xs = false := by
      cases hc : con xs with
      | false => rfl
      | true =>
        have := con_iff.mp hc 1 (by omega)
        rw [e0, e1] at this
        exact absurd this n.2.1
    rw [this, if_neg (by decide), if_pos hl, e0, e1]
    unfold r2
    have := nx_lo b
    rw [if_neg (by omega), if_neg (by omega)]
    have : 3 - b - nx b = nx (nx b) := by unfold nx; omega
    rw [this]
theorem rest_W {xs : List Int} {v : Int} (h : Vs xs) (r : Rest xs v) : ∃ u, 0 ≤ u ∧ u < 3 ∧ W xs u := by
  have := h.1
  obtain ⟨⟨v0, v1⟩, r | ⟨hl, b, ⟨b0, b1⟩, e0, e1, rfl⟩⟩ := r
  · exact ⟨v, v0, v1, 0, by omega, fun i hi => ⟨fun a => absurd a (Nat.not_lt_zero _), fun _ => r i hi⟩⟩
  · exact ⟨nx b, (nx_lo b).1, (nx_lo b).2, 0, by omega, fun i hi => ⟨fun a => absurd a (Nat.not_lt_zero _), fun _ => by
      have : i = 1 := by omega
      rw [this, e1]⟩⟩
theorem rest_lost {xs : List Int} {v : Int} {i : Nat} (h : 3 ≤ xs.length) (hi : i < xs.length) (r : Rest xs v) : Rest (xs.eraseIdx i) v := by
  obtain ⟨hv, r | ⟨hl, _⟩⟩ := r
  · have hl : (xs.eraseIdx i).length = xs.length - 1 := by rw [List.length_eraseIdx, if_pos hi]
    refine ⟨hv, .inl fun j hj => ?_⟩
    rw [hl] at hj
    rw [er_gd hi hj]
    split
    · exact r _ (by omega)
    · exact r _ (by omega)
  · omega
theorem rd_snd {xs : List Int} : ∀ w ∈ (rd xs).2, w.2 = (rd xs).1 := by
  intro w hw
  unfold rd at *
  split at hw
  · cases hw
  · rename_i g
    rw [if_neg g]
    split at hw
    · rename_i g
      rw [if_pos g]
      unfold r2 at *
      split at hw
      · rename_i g
        rw [if_pos g]
        rw [List.mem_singleton.mp hw]
      · rename_i g
        rw [if_neg g]
        split at hw
        · rename_i g
          rw [if_pos g]
          rw [List.mem_singleton.mp hw]
        · cases hw
    · rename_i g
      rw [if_neg g]
      obtain ⟨i, hi, rfl⟩ := List.mem_map.mp hw
      rfl
theorem df_fst {xs : List Int} {v : Int} : ∀ w ∈ df xs v, 0 ≤ w.1 ∧ w.1 < (xs.length : Nat) := by
  intro w hw
  obtain ⟨i, hi, rfl⟩ := List.mem_map.mp hw
  exact ⟨(ix_mem.mp hi).1, (ix_mem.mp hi).2.1⟩
theorem rd_fst {xs : List Int} : ∀ w ∈ (rd xs).2, 0 ≤ w.1 ∧ w.1 < (xs.length : Nat) := by
  intro w hw
  unfold rd at hw
  split at hw
  · cases hw
  · split at hw
    · rename_i g
      unfold r2 at hw
      split at hw
      · rw [List.mem_singleton.mp hw]; dsimp only; omega
      · split at hw
        · rw [List.mem_singleton.mp hw]; dsimp only; omega
        · cases hw
    · exact df_fst w hw
theorem df_len {xs : List Int} {v : Int} : (df xs v).length ≤ xs.length := by
  unfold df ix
  rw [List.length_map]
  refine Nat.le_trans (List.length_filter_le ..) ?_
  rw [rng_length]
  exact Nat.le_refl _
theorem rd_len {xs : List Int} : (rd xs).2.length ≤ xs.length := by
  unfold rd
  split
  · exact Nat.zero_le _
  · split
    · unfold r2
      split
      · show 1 ≤ _; omega
      · split
        · show 1 ≤ _; omega
        · exact Nat.zero_le _
    · exact df_len
section
variable {xs : List Int} {u v t : Int} {k : Nat}
theorem two_facts (h : Vs xs) (hl : xs.length = 2) (w : W xs u) : (xs.getD 0 0 = nx u ∨ xs.getD 1 0 = u) ∧ (0 ≤ xs.getD 0 0 ∧ 0 ≤ xs.getD 1 0) := by
  obtain ⟨k, hk, q⟩ := w
  have m0 := h.2.2 _ (List.getElem_mem (show 0 < xs.length by omega))
  have m1 := h.2.2 _ (List.getElem_mem (show 1 < xs.length by omega))
  rw [← gd] at m0 m1
  refine ⟨?_, m0.1, m1.1⟩
  rcases Nat.lt_or_ge 0 k with g | g
  · exact .inl ((q 0 (by omega)).1 g)
  · exact .inr ((q 1 (by omega)).2 (by omega))
theorem W2_of (hl : xs.length = 2) (h : xs.getD 0 0 = nx u ∨ xs.getD 1 0 = u) : W xs u := by
  rcases h with h | h
  · exact ⟨1, by omega, fun i hi => ⟨fun a => by rw [show i = 0 by omega, h], fun a => by omega⟩⟩
  · exact ⟨0, by omega, fun i hi => ⟨fun a => by omega, fun a => by rw [show i = 1 by omega, h]⟩⟩
theorem con_len2 (hl : xs.length = 2) (hc : con xs = false) : xs.getD 1 0 ≠ xs.getD 0 0 := fun e => by
  have : con xs = true := con_iff.mpr fun i hi => by
    have : i = 0 ∨ i = 1 := by omega
    rcases this with rfl | rfl
    · rfl
    · exact e
  rw [hc] at this
  cases this
theorem mend_torn (h : Vs xs) (u0 : 0 ≤ u) (u1 : u < 3) (w : W xs u) (hk : k < (rd xs).2.length) : W ((wr xs ((rd xs).2.take k)).set ((rd xs).2[k]).1.toNat t) u := by
  have hv := rd_val h u0 u1 w
  cases hc : con xs with
  | true =>
    have e : (rd xs).2 = [] := by unfold rd; rw [if_pos hc]
    rw [e] at hk
    cases hk
  | false =>
    by_cases hl : xs.length = 2
    · have e : rd xs = r2 (xs.getD 0 0) (xs.getD 1 0) := by unfold rd; rw [hc, if_neg (by decide), if_pos hl]
      have hne := con_len2 hl hc
      obtain ⟨hh, p0, p1⟩ := two_facts h hl w
      have hl2 : ∀ i : Nat, (xs.set i t).length = 2 := fun i => by rw [List.length_set]; exact hl
      simp only [e] at hk ⊢
      by_cases a : 2 < xs.getD 0 0
      · have e2 : r2 (xs.getD 0 0) (xs.getD 1 0) = (xs.getD 1 0, [(0, xs.getD 1 0)]) := by unfold r2; rw [if_pos a]
        simp only [e2] at hk ⊢
        have : k = 0 := by simp at hk; exact hk
        subst this
        refine W2_of (hl2 _) (.inr ?_)
        show (xs.set 0 t).getD 1 0 = u
        rw [set_gd (by omega), if_neg (by decide)]
        have := nx_lo u
        omega
      · by_cases b : 2 < xs.getD 1 0 ∨ xs.getD 0 0 = nx (xs.getD 1 0)
        · have e2 : r2 (xs.getD 0 0) (xs.getD 1 0) = (xs.getD 0 0, [(1, xs.getD 0 0)]) := by unfold r2; rw [if_neg a, if_pos b]
          simp only [e2] at hk ⊢
          have : k = 0 := by simp at hk; exact hk
          subst this
          refine W2_of (hl2 _) (.inl ?_)
          show (xs.set 1 t).getD 0 0 = nx u
          rw [set_gd (by omega), if_neg (by decide)]
          rcases hh with c | c
          · exact c
          · rcases b with b | b
            · omega
            · rw [b, c]
        · have e2 : r2 (xs.getD 0 0) (xs.getD 1 0) = (3 - xs.getD 0 0 - xs.getD 1 0, []) := by unfold r2; rw [if_neg a, if_neg b]
          simp only [e2] at hk
          cases hk
    · obtain ⟨x, ys, e, x0, x1, xw⟩ := lb_hd (by have := h.1; omega) u0 u1 w
      have ee : rd xs = (nx x, df xs (nx x)) := by unfold rd; rw [hc, if_neg (by decide), if_neg hl, e]; rfl
      have := W_uniq (by have := h.1; omega) u0 u1 x0 x1 w xw hc
      subst this
      simp only [ee] at hk ⊢
      unfold df at hk ⊢
      rw [List.length_map] at hk
      simp only [List.getElem_map, ← List.map_take]
      refine torn_up hk fun x hx j hj hxj => ?_
      obtain ⟨k', hk', q⟩ := w
      have hx := ix_mem.mp hx
      refine (q j hj).2 ?_
      apply Classical.byContradiction
      intro g
      exact hx.2.2 ((q x.toNat (by omega)).1 (by omega))
theorem mend_full (h : Vs xs) (u0 : 0 ≤ u) (u1 : u < 3) (w : W xs u) : Rest (wr xs (rd xs).2) (rd xs).1 := by
  have hv := rd_val h u0 u1 w
  have hr : 0 ≤ (rd xs).1 ∧ (rd xs).1 < 3 := by have := nx_lo u; omega
  refine ⟨hr, ?_⟩
  rw [wr_len]
  cases hc : con xs with
  | true =>
    have e : rd xs = (xs.getD 0 0, []) := by unfold rd; rw [if_pos hc]
    rw [e]
    exact .inl fun i hi => con_iff.mp hc i hi
  | false =>
    by_cases hl : xs.length = 2
    · have e : rd xs = r2 (xs.getD 0 0) (xs.getD 1 0) := by unfold rd; rw [hc, if_neg (by decide), if_pos hl]
      have hne := con_len2 hl hc
      obtain ⟨hh, p0, p1⟩ := two_facts h hl w
      by_cases a : 2 < xs.getD 0 0
      · have e2 : rd xs = (xs.getD 1 0, [(0, xs.getD 1 0)]) := by rw [e]; unfold r2; rw [if_pos a]
        rw [e2]
        refine .inl fun i hi => ?_
        show (xs.set 0 _).getD i 0 = _
        rw [set_gd (by omega)]
        split
        · rfl
        · rw [show i = 1 by omega]
      · by_cases b : 2 < xs.getD 1 0 ∨ xs.getD 0 0 = nx (xs.getD 1 0)
        · have e2 : rd xs = (xs.getD 0 0, [(1, xs.getD 0 0)]) := by rw [e]; unfold r2; rw [if_neg a, if_pos b]
          rw [e2]
          refine .inl fun i hi => ?_
          show (xs.set 1 _).getD i 0 = _
          rw [set_gd (by omega)]
          split
          · rfl
          · rw [show i = 0 by omega]
        · have e2 : rd xs = (3 - xs.getD 0 0 - xs.getD 1 0, []) := by rw [e]; unfold r2; rw [if_neg a, if_neg b]
          rw [e2]
          refine .inr ⟨hl, xs.getD 0 0, ⟨p0, by omega⟩, rfl, ?_, ?_⟩
          all_goals
            show _ = _
            try rw [show wr xs [] = xs from rfl]
            generalize xs.getD 0 0 = a at *
            generalize xs.getD 1 0 = b at *
            unfold nx at *
            omega
    · obtain ⟨x, ys, e, x0, x1, xw⟩ := lb_hd (by have := h.1; omega) u0 u1 w
      have ee : rd xs = (nx x, df xs (nx x)) := by unfold rd; rw [hc, if_neg (by decide), if_neg hl, e]; rfl
      rw [ee]
      exact .inl fun i hi => full_ix (fun _ => Iff.rfl) hi
/-! changes -/
def wz (xs : List Int) (old new : Int) : List (Int × Int) := if new = old then [] else if new = (old + 2) % 3 then (df xs new).reverse else df xs new
def uu (old new : Int) : Int := if new = (old + 2) % 3 then new else old
theorem chg_torn {old new : Int} (r : Rest xs old) (n0 : 0 ≤ new) (n1 : new < 3) (hk : k < (wz xs old new).length) : W ((wr xs ((wz xs old new).take k)).set ((wz xs old new)[k]).1.toNat t) (uu old new) ∧ (0 ≤ uu old new ∧ uu old new < 3) ∧ (uu old new = old ∨ uu old new = new) ∧ (nx (uu old new) = old ∨ nx (uu old new) = new) := by
  obtain ⟨⟨o0, o1⟩, r⟩ := r
  by_cases h1 : new = old
  · have e : wz xs old new = [] := if_pos h1
    rw [e] at hk
    cases hk
  · by_cases h2 : new = (old + 2) % 3
    · have e : wz xs old new = ((ix xs new).reverse.map fun i => (i, new)) := by unfold wz; rw [if_neg h1, if_pos h2]; unfold df; rw [List.map_reverse]
      have eu : uu old new = new := if_pos h2
      have en : nx new = old := by unfold nx; omega
      simp only [e] at hk ⊢
      rw [List.length_map] at hk
      simp only [List.getElem_map, ← List.map_take]
      rw [eu]
      refine ⟨torn_dn hk fun x hx j hj hjx => ?_, ⟨n0, n1⟩, .inr rfl, .inl en⟩
      rw [en]
      rcases r with r | ⟨hl, b, ⟨b0, b1⟩, e0, e1, rfl⟩
      · exact r j hj
      · have hx := ix_mem.mp hx
        have : x = 1 := by omega
        subst this
        exfalso
        apply hx.2.2
        show xs.getD 1 0 = new
        rw [e1]
        unfold nx at *
        omega
    · have e : wz xs old new = ((ix xs new).map fun i => (i, new)) := by unfold wz; rw [if_neg h1, if_neg h2]; rfl
      have eu : uu old new = old := if_neg h2
      have en : nx old = new := by unfold nx; omega
      simp only [e] at hk ⊢
      rw [List.length_map] at hk
      simp only [List.getElem_map, ← List.map_take]
      rw [eu]
      refine ⟨?_, ⟨o0, o1⟩, .inl rfl, .inr en⟩
      subst en
      refine torn_up hk fun x hx j hj hjx => ?_
      rcases r with r | ⟨hl, b, ⟨b0, b1⟩, e0, e1, rfl⟩
      · exact r j hj
      · have hx := ix_mem.mp hx
        have : x = 0 := by omega
        subst this
        exfalso
        apply hx.2.2
        show xs.getD 0 0 = _
        rw [e0, (nx3 b0 b1).1]
theorem wz_ix {old new : Int} (h1 : new ≠ old) : ∃ L : List Int, wz xs old new = L.map (fun i => (i, new)) ∧ ∀ x, x ∈ L ↔ x ∈ ix xs new := by
  unfold wz
  rw [if_neg h1]
  split
  · exact ⟨(ix xs new).reverse, by unfold df; rw [List.map_reverse], fun x => List.mem_reverse⟩
  · exact ⟨ix xs new, rfl, fun _ => Iff.rfl⟩
theorem chg_full {old new : Int} (r : Rest xs old) (n0 : 0 ≤ new) (n1 : new < 3) : Rest (wr xs (wz xs old new)) new := by
  by_cases h1 : new = old
  · have e : wz xs old new = [] := if_pos h1
    rw [e, h1]
    exact r
  · obtain ⟨L, e, hL⟩ := wz_ix (xs := xs) h1
    refine ⟨⟨n0, n1⟩, .inl fun i hi => ?_⟩
    rw [wr_len] at hi
    rw [e]
    exact full_ix hL hi
theorem wz_mem {old new : Int} : ∀ w ∈ wz xs old new, w.2 = new ∧ 0 ≤ w.1 ∧ w.1 < (xs.length : Nat) := by
  intro w hw
  by_cases h1 : new = old
  · have e : wz xs old new = [] := if_pos h1
    rw [e] at hw
    cases hw
  · obtain ⟨L, e, hL⟩ := wz_ix (xs := xs) h1
    rw [e] at hw
    obtain ⟨i, hi, rfl⟩ := List.mem_map.mp hw
    have := ix_mem.mp ((hL i).mp hi)
    exact ⟨rfl, this.1, this.2.1⟩
theorem wz_len {old new : Int} : (wz xs old new).length ≤ xs.length := by
  unfold wz
  split
  · exact Nat.zero_le _
  · split
    · rw [List.length_reverse]; exact df_len
    · exact df_len
end
end L40

namespace L40
open PySem L2 Mir Num
/-! the program's part -/
section
variable {xs : List Int} {t : Bool} {u v : Int}
theorem between_ok {x a b : Int} {Q : Bool → Unit → Prop} (q : Q (decide (a ≤ x) && decide (x ≤ b)) ()) : (m_is_between x a b ()).st Q := by
  unfold m_is_between m_is_whole
  simp only [st_mb, st_mu, st_mp, st_mi]
  exact ⟨fun _ => q, fun e => absurd e (by decide)⟩
theorem few_ok (h : Vs xs) {Q : Unit → Unit → Prop} (q : Q () ()) : (m_check_few ⟨t, xs⟩ ()).st Q := by
  unfold m_check_few m_is_list
  obtain ⟨h1, h2, h3⟩ := h
  simp only [st_mb, st_mu, st_mp, st_mi, st_mbad]
  refine ⟨fun e => absurd e (by decide), fun _ => ⟨fun e => ?_, fun _ => ?_⟩⟩
  · rw [decide_eq_true (show (1 : Int) ≤ ((xs.length : Nat) : Int) by omega), decide_eq_true (show ((xs.length : Nat) : Int) ≤ 64 by omega)] at e
    cases e
  · refine st_cmA (g := fun a => decide ((0 : Int) ≤ a) && decide (a ≤ 996)) (by omega) (fun x _ => st_mu.mpr (between_ok ⟨rfl, rfl⟩)) ?_
    rw [allid]
    have : (xs.all fun a => decide ((0 : Int) ≤ a) && decide (a ≤ 996)) = true := List.all_eq_true.mpr fun x hx => by
      have := h3 x hx
      rw [decide_eq_true this.1, decide_eq_true this.2]
      rfl
    rw [this]
    exact ⟨fun e => absurd e (by decide), fun _ => q⟩
theorem three_ok (h : Vs xs) {Q : Unit → Unit → Prop} (q : Q () ()) : (m_check_three ⟨t, xs⟩ ()).st Q := by
  unfold m_check_three
  simp only [st_mb, st_mu, st_mp, st_mi, st_mbad]
  refine few_ok h ⟨fun e => ?_, fun _ => q⟩
  have := of_decide_eq_true e
  have := h.1
  omega
/-- as the program asks it -/
def la (xs : List Int) (u at_ : Int) : Bool := decide (((((cutL xs none (some at_)).count (nx u) : Nat)) : Int) = (((cutL xs none (some at_)).length : Nat) : Int)) && decide (((((cutL xs (some (at_ + 1)) none).count u : Nat)) : Int) = (((cutL xs (some (at_ + 1)) none).length : Nat) : Int))
theorem cnt_iff {l : List Int} {a : Int} : decide (((l.count a : Nat) : Int) = ((l.length : Nat) : Int)) = true ↔ ∀ i, i < l.length → l.getD i 0 = a := by
  rw [decide_eq_true_eq, Int.ofNat_inj, List.count_eq_length]
  constructor
  · intro h i hi
    rw [gd hi]
    exact (h _ (List.getElem_mem hi)).symm
  · intro h x hx
    obtain ⟨i, hi, e⟩ := List.mem_iff_getElem.mp hx
    have := h i hi
    rw [gd hi, e] at this
    exact this.symm
theorem take_gd {k i : Nat} (h : i < xs.length) (g : i < k) : (xs.take k).getD i 0 = xs.getD i 0 := by
  rw [gd (by rw [List.length_take]; omega), gd h, List.getElem_take]
theorem drop_gd {k i : Nat} (h : k + i < xs.length) : (xs.drop k).getD i 0 = xs.getD (k + i) 0 := by
  rw [gd (by rw [List.length_drop]; omega), gd h, List.getElem_drop]
theorem la_iff {i : Int} (h0 : 0 ≤ i) (h1 : i < (xs.length : Nat)) : la xs u i = true ↔ ∀ j, j < xs.length → (j < i.toNat → xs.getD j 0 = nx u) ∧ (i.toNat < j → xs.getD j 0 = u) := by
  unfold la
  rw [Bool.and_eq_true, cnt_iff, cnt_iff, cutL_to h0, cutL_from (by omega), show (i + 1).toNat = i.toNat + 1 by omega, List.length_take, List.length_drop]
  constructor
  · rintro ⟨a, b⟩ j hj
    refine ⟨fun g => ?_, fun g => ?_⟩
    · have := a j (by omega)
      rw [take_gd hj g] at this
      exact this
    · have := b (j - (i.toNat + 1)) (by omega)
      rw [drop_gd (by omega), show i.toNat + 1 + (j - (i.toNat + 1)) = j by omega] at this
      exact this
  · intro h
    refine ⟨fun j hj => ?_, fun j hj => ?_⟩
    · rw [take_gd (by omega) (by omega)]
      exact (h j (by omega)).1 (by omega)
    · rw [drop_gd (by omega)]
      exact (h _ (by omega)).2 (by omega)
theorem any_la (h : 0 < xs.length) : ((rng 0 xs.length).any fun i => la xs u i) = fm xs u := by
  rw [Bool.eq_iff_iff, fm_W h, List.any_eq_true]
  constructor
  · rintro ⟨i, hi, q⟩
    have hi := mem_rng.mp hi
    exact ⟨i.toNat, by omega, (la_iff hi.1 (by omega)).mp q⟩
  · rintro ⟨k, hk, q⟩
    exact ⟨(k : Int), mem_rng.mpr (by omega), (la_iff (by omega) (by omega)).mpr (by rw [Int.toNat_natCast]; exact q)⟩
theorem left_at_ok {i : Int} {Q : Bool → Unit → Prop} (q : Q (la xs u i) ()) : (m_is_left_at ⟨t, xs⟩ u i ()).st Q := by
  unfold m_is_left_at m_following
  simp only [st_mb, st_mu, st_mp, st_mi]
  unfold la at q
  refine ⟨fun e => ?_, fun e => ?_⟩
  · have e : decide (((((cutL xs none (some i)).count (nx u) : Nat)) : Int) = (((cutL xs none (some i)).length : Nat) : Int)) = true := e
    rw [e, Bool.true_and] at q
    exact q
  · have e : decide (((((cutL xs none (some i)).count (nx u) : Nat)) : Int) = (((cutL xs none (some i)).length : Nat) : Int)) = false := e
    rw [e, Bool.false_and] at q
    exact q
theorem left_by_ok (h : Vs xs) {Q : List Int → Unit → Prop} (q : Q (lb xs) ()) : (m_left_by ⟨t, xs⟩ ()).st Q := by
  unfold m_left_by
  simp only [st_mb, st_mc, st_mp]
  refine ⟨by decide, ?_⟩
  refine st_cmP (p := fm xs) (g := fun x => x) (by rw [rng_length]; decide) (fun x _ => ?_) (fun x _ _ => st_mp.mpr ⟨rfl, rfl⟩) ?_
  · simp only [st_mb, st_mc, st_mp]
    refine ⟨b62_of (by omega) (by have := h.2.1; omega), ?_⟩
    refine st_cmA (g := la xs x) (by rw [rng_length]; have := h.2.1; omega) (fun i _ => st_mu.mpr (left_at_ok ⟨rfl, rfl⟩)) ?_
    rw [anyid, Int.toNat_natCast, any_la (by have := h.1; omega)]
    exact ⟨rfl, trivial⟩
  · rw [List.map_id']
    exact q
theorem left_ok (h : Vs xs) (hl : ∃ x ys, lb xs = x :: ys) {Q : Unit → Unit → Prop} (q : Q () ()) : (m_check_left ⟨t, xs⟩ ()).st Q := by
  unfold m_check_left
  simp only [st_mb, st_mu, st_mp, st_mi, st_mbad]
  refine three_ok h (left_by_ok h ⟨fun e => ?_, fun _ => q⟩)
  obtain ⟨x, ys, e2⟩ := hl
  have := of_decide_eq_true e
  rw [e2] at this
  cases this
theorem can_ok (h : Vs xs) (hl : ∃ x ys, lb xs = x :: ys) {Q : Bool → Unit → Prop} (q : Q true ()) : (m_three_can_be_left ⟨t, xs⟩ ()).st Q := by
  unfold m_three_can_be_left
  simp only [st_mb, st_mu, st_mp]
  refine three_ok h (left_by_ok h ?_)
  obtain ⟨x, ys, e2⟩ := hl
  rw [e2]
  exact q
theorem len2 (hl : xs.length = 2) : xs = [xs.getD 0 0, xs.getD 1 0] := by
  match xs, hl with
  | [a, b], _ => rfl
theorem con_cnt (h : Vs xs) : decide (((xs.count (xs.getD 0 0) : Nat) : Int) = ((xs.length : Nat) : Int)) = con xs := by
  rw [Bool.eq_iff_iff, cnt_iff, con_iff]
theorem at0 (h : 0 < xs.length) : atI xs 0 = some (xs.getD 0 0) := by
  rw [atI_get' (by decide) (by omega), show (0 : Int).toNat = 0 from rfl, List.getElem?_eq_getElem h, gd h]
theorem enum_eq {order : List Int} : enumL order = (rng 0 order.length).map fun i => (i, order.getD i.toNat 0) := by
  refine List.ext_getElem? fun i => ?_
  unfold enumL rng
  rw [List.getElem?_map, List.getElem?_zipIdx, List.map_map, List.getElem?_map]
  by_cases h : i < order.length
  · rw [List.getElem?_eq_getElem h, List.getElem?_range h]
    show some (((0 + i : Nat) : Int), order[i]) = some ((0 + (i : Int)), order.getD (0 + (i : Int)).toNat 0)
    rw [Nat.zero_add, Int.zero_add, Int.toNat_natCast, List.getD_eq_getElem?_getD, List.getElem?_eq_getElem h]
    rfl
  · rw [List.getElem?_eq_none (by omega), List.getElem?_eq_none (by rw [List.length_range]; omega)]
    rfl
theorem enum_len : (enumL xs).length = xs.length := by rw [enum_eq, List.length_map, rng_length]
theorem enum_df : ((enumL xs).filter fun a => !decide (a.2 = v)).map (fun a => (a.1, v)) = df xs v := by
  rw [enum_eq, List.filter_map, List.map_map]
  rfl
end
section
variable {K : PySem.W.Frag} {s : Sto K} {xs : List Int} {t : Bool} {u v : Int}
theorem of_two_ok (hl : xs.length = 2) {Q : Int × Ref → Sto K → Prop} (q : ∀ a, s.f a = none → Q ((r2 (xs.getD 0 0) (xs.getD 1 0)).1, ⟨a⟩) (s.put a (.lst ((r2 (xs.getD 0 0) (xs.getD 1 0)).2.map PyT.enc)))) : (m_told_of_two (K := K) ⟨t, xs⟩ s).st Q := by
  unfold m_told_of_two m_following
  simp only [st_mb, st_mp, st_mc, st_mi, st_mnew, st_mu]
  refine ⟨decide_eq_true hl, fun a => ?_, fun a => ⟨fun b => ?_, fun b => ⟨fun c => ?_, fun c => ?_⟩⟩⟩
  · have a := of_decide_eq_true a
    unfold r2 at q
    rw [if_pos a] at q
    exact q
  · have a := of_decide_eq_false a
    have b := of_decide_eq_true b
    unfold r2 at q
    rw [if_neg a, if_pos (.inl b)] at q
    exact ⟨fun _ => q, fun e => absurd e (by decide)⟩
  · have a := of_decide_eq_false a
    have c := of_decide_eq_true c
    unfold r2 at q
    rw [if_neg a, if_pos (.inr c)] at q
    exact q
  · have a := of_decide_eq_false a
    have b := of_decide_eq_false b
    have c := of_decide_eq_false c
    unfold r2 at q
    rw [if_neg a, if_neg fun h => h.elim b c] at q
    exact q
theorem lb_ex (h : Vs xs) (hu : ∃ u, 0 ≤ u ∧ u < 3 ∧ W xs u) : ∃ x ys, lb xs = x :: ys := by
  obtain ⟨u, u0, u1, w⟩ := hu
  obtain ⟨x, ys, e, _⟩ := lb_hd (by have := h.1; omega) u0 u1 w
  exact ⟨x, ys, e⟩
theorem taw_ok (h : Vs xs) (hu : ∃ u, 0 ≤ u ∧ u < 3 ∧ W xs u) {Q : Int × Ref → Sto K → Prop} (q : ∀ a, s.f a = none → Q ((rd xs).1, ⟨a⟩) (s.put a (.lst ((rd xs).2.map PyT.enc)))) : (m_told_and_writes (K := K) ⟨t, xs⟩ s).st Q := by
  unfold m_told_and_writes
  simp only [st_mb, st_mp, st_mi, st_mnew, st_mo, st_mu]
  have e0 := at0 (xs := xs) (by have := h.1; omega)
  refine ⟨_, e0, ?_⟩
  rw [con_cnt h]
  refine ⟨fun g => ?_, fun g => ⟨fun l => ?_, fun l => ?_⟩⟩
  · have e : rd xs = (xs.getD 0 0, []) := by unfold rd; rw [if_pos g]
    rw [e] at q
    exact ⟨_, e0, q⟩
  · have l := of_decide_eq_true l
    have l : xs.length = 2 := by omega
    have e : rd xs = r2 (xs.getD 0 0) (xs.getD 1 0) := by unfold rd; rw [g, if_neg (by decide), if_pos l]
    rw [e] at q
    exact of_two_ok l q
  · have l := of_decide_eq_false l
    have l : xs.length ≠ 2 := by omega
    obtain ⟨x, ys, e⟩ := lb_ex h hu
    have ee : rd xs = (nx x, df xs (nx x)) := by unfold rd; rw [g, if_neg (by decide), if_neg l, e]; rfl
    rw [ee] at q
    refine left_by_ok h ⟨x, by rw [e, at0 (by simp)]; rfl, ?_⟩
    unfold m_following
    rw [st_mp]
    show (cmP (enumL xs) (fun (a75 : (Int × Int)) => (mp (!decide (a75.2 = nx x)))) (fun a75 => (mp ((a75.1, nx x) : (Int × Int)))) s).st _
    refine st_cmP (p := fun a : Int × Int => !decide (a.2 = nx x)) (g := fun a => (a.1, nx x)) (by rw [enum_len]; have := h.2.1; omega) (fun a _ => st_mp.mpr ⟨rfl, rfl⟩) (fun a _ _ => st_mp.mpr ⟨rfl, rfl⟩) ?_
    rw [enum_df]
    exact q
theorem told_ok (h : Vs xs) (hu : ∃ u, 0 ≤ u ∧ u < 3 ∧ W xs u) {Q : Int → Sto K → Prop} (q : ∀ a o, s.f a = none → Q (rd xs).1 (s.put a o)) : (m_three_told (K := K) ⟨t, xs⟩ s).st Q := by
  unfold m_three_told
  simp only [st_mb, st_mp, st_mu]
  exact left_ok h (lb_ex h hu) (taw_ok h hu fun a ha => q a _ ha)
theorem mending_ok (h : Vs xs) (hu : ∃ u, 0 ≤ u ∧ u < 3 ∧ W xs u) {Q : Ref → Sto K → Prop} (q : ∀ a, s.f a = none → Q ⟨a⟩ (s.put a (.lst ((rd xs).2.map PyT.enc)))) : (m_three_mending (K := K) ⟨t, xs⟩ s).st Q := by
  unfold m_three_mending
  simp only [st_mb, st_mp, st_mu]
  exact left_ok h (lb_ex h hu) (taw_ok h hu fun a ha => q a ha)
theorem steps_ok (h : Vs xs) (r : Rest xs v) {new : Int} (n0 : 0 ≤ new) (n1 : new < 3) {Q : List (Int × Int) → Sto K → Prop} (q : ∀ a o, s.f a = none → Q (wz xs v new) (s.put a o)) : (m_three_steps (K := K) ⟨t, xs⟩ new s).st Q := by
  unfold m_three_steps
  have hu := rest_W h r
  have e := rest_rd h r
  simp only [st_mb, st_mp, st_mu, st_mi, st_mbad]
  refine left_ok h (lb_ex h hu) (taw_ok h hu fun a ha => ?_)
  rw [e]
  refine st_mldT.mpr ⟨_, _, Sto.put_same, decs_enc _, ⟨fun c => absurd (show (!decide (([] : List (Int × Int)) = [])) = true from c) (by decide), fun _ => between_ok ⟨fun c => ?_, fun _ => ⟨fun c => ?_, fun c => ?_⟩⟩⟩⟩
  · rw [decide_eq_true n0, decide_eq_true (show new ≤ 2 by omega)] at c
    cases c
  · have c := of_decide_eq_true c
    have : wz xs v new = [] := if_pos c
    rw [← this]
    exact q a _ ha
  · have c := of_decide_eq_false c
    refine st_cmP (p := fun a : Int × Int => !decide (a.2 = new)) (g := fun a => (a.1, new)) (by rw [enum_len]; have := h.2.1; omega) (fun a _ => st_mp.mpr ⟨rfl, rfl⟩) (fun a _ _ => st_mp.mpr ⟨rfl, rfl⟩) ?_
    rw [enum_df]
    unfold m_following
    simp only [st_mp]
    have v0 := r.1.1
    have v1 := r.1.2
    refine ⟨fun d => ?_, fun d => ?_⟩
    · have d := of_decide_eq_true d
      have d : new = (v + 1) % 3 := d
      have : wz xs v new = df xs new := by unfold wz; rw [if_neg c, if_neg (by omega)]
      rw [← this, st_mg]
      exact q a _ ha
    · have d := of_decide_eq_false d
      have d : ¬ new = (v + 1) % 3 := d
      have : wz xs v new = (df xs new).reverse := by unfold wz; rw [if_neg c, if_pos (by omega)]
      rw [← this]
      exact q a _ ha
end
end L40

namespace L40
open PySem L2 Mir Num
/-! the law's objects -/
abbrev obV (view : Ref) (v : Int) : Ob := .dic [(.inr ("view" : Str), PyT.enc view), (.inr ("value" : Str), PyT.enc v)]
theorem k_ne : decide ((Sum.inr ("view" : Str) : Key) = Sum.inr ("value" : Str)) = false := by decide
theorem k_en : decide ((Sum.inr ("value" : Str) : Key) = Sum.inr ("view" : Str)) = false := by decide
theorem get_vw {a b : Py} : getP [((.inr ("view" : Str) : Key), a), (.inr ("value" : Str), b)] (Ky.key ("view" : Str)) = some a := by
  unfold getP
  rw [List.find?_cons, decide_eq_true (show ((Sum.inr ("view" : Str) : Key)) = Ky.key ("view" : Str) from rfl)]
  rfl
theorem get_vl {a b : Py} : getP [((.inr ("view" : Str) : Key), a), (.inr ("value" : Str), b)] (Ky.key ("value" : Str)) = some b := by
  unfold getP
  rw [List.find?_cons, show decide ((Sum.inr ("view" : Str) : Key) = Ky.key ("value" : Str)) = false from k_ne, List.find?_cons, decide_eq_true (show ((Sum.inr ("value" : Str) : Key)) = Ky.key ("value" : Str) from rfl)]
  rfl
theorem put1 {k1 k2 : Key} {a b c : Py} (h : k2 ≠ k1) : putP [(k1, a), (k2, b)] k1 c = [(k1, c), (k2, b)] := by
  unfold putP
  simp [h]
theorem put2 {k1 k2 : Key} {a b c : Py} (h : k1 ≠ k2) : putP [(k1, a), (k2, b)] k2 c = [(k1, a), (k2, c)] := by
  unfold putP
  simp [h]
theorem put_vw {a b c : Py} : putP [((.inr ("view" : Str) : Key), a), (.inr ("value" : Str), b)] (Ky.key ("view" : Str)) c = [(.inr ("view" : Str), c), (.inr ("value" : Str), b)] := put1 (of_decide_eq_false k_en)
theorem put_vl {a b c : Py} : putP [((.inr ("view" : Str) : Key), a), (.inr ("value" : Str), b)] (Ky.key ("value" : Str)) c = [(.inr ("view" : Str), a), (.inr ("value" : Str), c)] := put2 (of_decide_eq_false k_ne)
section
variable {K : PySem.W.Frag}
structure Ws (s : Sto K) (w view : Ref) (xs : List Int) (v : Int) : Prop where
  d : s.f w.a = some (obV view v)
  l : s.f view.a = some (.lst (xs.map PyT.enc))
/-- two rows -/
structure Tw (s : Sto K) (w view : Ref) (xs : List Int) (v : Int) (w' view' : Ref) (xs' : List Int) (v' : Int) : Prop where
  a : Ws s w view xs v
  b : Ws s w' view' xs' v'
  nw : w.a ≠ w'.a
  nv : view.a ≠ view'.a
variable {s s' : Sto K} {r w view w' view' : Ref} {n m : Int} {xs xs' ys : List Int} {v v' : Int} {a : Addr} {o : Ob}
theorem Tw.swap (h : Tw s w view xs v w' view' xs' v') : Tw s w' view' xs' v' w view xs v := ⟨h.b, h.a, h.nw.symm, h.nv.symm⟩
theorem lst_dic {f : Option Ob} {xs : List Py} {d : List (Key × Py)} (h : f = some (.lst xs)) (g : f = some (.dic d)) : False := by
  rw [h] at g
  cases g
theorem box_ne (B : Bx s r n) (h : s.f view.a = some (.lst (xs.map PyT.enc))) : view.a ≠ r.a := by
  intro e
  obtain ⟨g, f, m, c, q, _⟩ := B
  rw [e, q] at h
  have h := Ob.lst.inj (Option.some.inj h)
  match xs, h with
  | x :: y :: ys, h =>
    rw [List.map_cons, List.map_cons, List.cons.injEq, List.cons.injEq] at h
    cases h.2.1
theorem Ws.ne (h : Ws s w view xs v) (g : Ws s w' view' xs' v') : w.a ≠ view'.a := fun e => lst_dic (show s.f w.a = _ by rw [e]; exact g.l) h.d
theorem Ws.nb (h : Ws s w view xs v) (B : Bx s r n) : w.a ≠ r.a ∧ view.a ≠ r.a := ⟨fun e => by
  obtain ⟨g, f, m, c, q, _⟩ := B
  exact lst_dic (show s.f w.a = _ by rw [e]; exact q) h.d, box_ne B h.l⟩
theorem Ws.same (h : Ws s w view xs v) (h1 : s'.f w.a = s.f w.a) (h2 : s'.f view.a = s.f view.a) : Ws s' w view xs v := ⟨by rw [h1]; exact h.d, by rw [h2]; exact h.l⟩
theorem Ws.off (h : Ws s w view xs v) (ha : s.f a = none) (q : ∀ c, c ≠ a → s'.f c = s.f c) : Ws s' w view xs v :=
  h.same (q _ fun e => by rw [← e, h.d] at ha; cases ha) (q _ fun e => by rw [← e, h.l] at ha; cases ha)
theorem Tw.off (h : Tw s w view xs v w' view' xs' v') (ha : s.f a = none) (q : ∀ c, c ≠ a → s'.f c = s.f c) : Tw s' w view xs v w' view' xs' v' := ⟨h.a.off ha q, h.b.off ha q, h.nw, h.nv⟩
theorem Bx.off (h : Bx s r n) (ha : s.f a = none) (q : ∀ c, c ≠ a → s'.f c = s.f c) : Bx s' r n := by
  obtain ⟨g, f, m, c, e, h1⟩ := h
  exact ⟨g, f, m, c, by rw [q _ fun e2 => by rw [← e2, e] at ha; cases ha]; exact e, h1⟩
theorem Tw.only (h : Tw s w view xs v w' view' xs' v') (B : Bx s r n) (q : Only r s s') : Tw s' w view xs v w' view' xs' v' :=
  ⟨h.a.same (q _ (h.a.nb B).1) (q _ (h.a.nb B).2), h.b.same (q _ (h.b.nb B).1) (q _ (h.b.nb B).2), h.nw, h.nv⟩
/-- with a box -/
structure Pr (s : Sto K) (r : Ref) (n : Int) (w view : Ref) (xs : List Int) (v : Int) (w' view' : Ref) (xs' : List Int) (v' : Int) : Prop where
  b : Bx s r n
  t : Tw s w view xs v w' view' xs' v'
theorem Pr.off (h : Pr s r n w view xs v w' view' xs' v') (ha : s.f a = none) (q : ∀ c, c ≠ a → s'.f c = s.f c) : Pr s' r n w view xs v w' view' xs' v' := ⟨Bx.off h.b ha q, h.t.off ha q⟩
theorem Pr.mono (h : Pr s r n w view xs v w' view' xs' v') (l : n ≤ m) : Pr s r m w view xs v w' view' xs' v' := ⟨h.b.mono l, h.t⟩
theorem Pr.swap (h : Pr s r n w view xs v w' view' xs' v') : Pr s r n w' view' xs' v' w view xs v := ⟨h.b, h.t.swap⟩
/-- contents set -/
theorem Pr.setL (h : Pr s r n w view xs v w' view' xs' v') : Pr (s.put view.a (.lst (ys.map PyT.enc))) r n w view ys v w' view' xs' v' :=
  ⟨Bx.put h.b (h.t.a.nb h.b).2.symm, ⟨by rw [Sto.put_ne (h.t.a.ne h.t.a)]; exact h.t.a.d, Sto.put_same⟩, h.t.b.same (Sto.put_ne (h.t.b.ne h.t.a)) (Sto.put_ne h.t.nv.symm), h.t.nw, h.t.nv⟩
/-- the value set -/
theorem Pr.setV (h : Pr s r n w view xs v w' view' xs' v') {x : Int} : Pr (s.put w.a (obV view x)) r n w view xs x w' view' xs' v' :=
  ⟨Bx.put h.b (h.t.a.nb h.b).1.symm, ⟨Sto.put_same, by rw [Sto.put_ne (h.t.a.ne h.t.a).symm]; exact h.t.a.l⟩, h.t.b.same (Sto.put_ne h.t.nw.symm) (Sto.put_ne (h.t.a.ne h.t.b).symm), h.t.nw, h.t.nv⟩
/-- a new view -/
theorem Pr.newL (h : Pr s r n w view xs v w' view' xs' v') (ha : s.f a = none) : Pr ((s.put a (.lst (ys.map PyT.enc))).put w.a (obV ⟨a⟩ v)) r n w ⟨a⟩ ys v w' view' xs' v' := by
  have g := h.off (s' := s.put a (.lst (ys.map PyT.enc))) ha fun c hc => Sto.put_ne hc
  have na : ∀ c, s.f c ≠ none → c ≠ a := fun c hc e => hc (by rw [e]; exact ha)
  have n1 : w.a ≠ a := na _ (by rw [h.t.a.d]; exact fun e => by cases e)
  have n2 : view'.a ≠ a := na _ (by rw [h.t.b.l]; exact fun e => by cases e)
  exact ⟨Bx.put g.b (g.t.a.nb g.b).1.symm, ⟨Sto.put_same, by rw [Sto.put_ne (show (Ref.mk a).a ≠ w.a from n1.symm)]; exact Sto.put_same⟩, g.t.b.same (Sto.put_ne g.t.nw.symm) (Sto.put_ne (g.t.a.ne g.t.b).symm), g.t.nw, n2.symm⟩
theorem Pr.only (h : Pr s r n w view xs v w' view' xs' v') (B : Bx s' r m) (q : Only r s s') : Pr s' r m w view xs v w' view' xs' v' := ⟨B, h.t.only h.b q⟩
theorem take_b {many : Int} (h : Bx s r n) (hn : n ≤ 1000000) (h1 : 0 < many) (h2 : many ≤ 1000000000000) {Q : Int → Sto K → Prop} (q : ∀ x s', 0 ≤ x → x < many → Bx s' r (n + 1) → Only r s s' → Q x s') : (m__law_take r many s).st Q := by
  obtain ⟨g, f, m, c, h, g0, m0, m1, c0, c1⟩ := h
  have a0 : atI [Py.int g, .bl f, .int m, .int c] 0 = some (Py.int g) := rfl
  have a1 : atI [Py.int g, .bl f, .int m, .int c] 1 = some (Py.bl f) := rfl
  have a2 : ∀ c, atI [Py.int g, .bl f, .int m, .int c] 2 = some (Py.int m) := fun _ => rfl
  have a3 : ∀ c, atI [Py.int g, .bl f, .int m, .int c] 3 = some (Py.int c) := fun _ => rfl
  have di : ∀ x, PyT.dec (α := Int) (.int x) = some x := fun _ => rfl
  have db : ∀ x, PyT.dec (α := Bool) (.bl x) = some x := fun _ => rfl
  have i0 : ixN (List.length [Py.int g, .bl f, .int m, .int c]) 0 = some 0 := rfl
  have i3 : ixN (List.length [Py.int g, .bl f, .int m, .int c]) 3 = some 3 := rfl
  have ps : ∀ o : Ob, (s.put r.a o).f r.a = some o := fun o => Sto.put_same
  have eo : ∀ o : Ob, Only r s (s.put r.a o) := fun o b e => Sto.put_ne e
  unfold m__law_take
  simp only [st_mb, st_mp, st_mc, st_mi, st_mo, st_mldL, st_mput, h, Option.some.injEq, Ob.lst.injEq, exists_eq_left', a0, a1, a2, a3, Option.bind_some, di, db, i0, i3, ps, List.set, PyT.enc]
  refine ⟨fun _ => ⟨fun _ => ?_, fun _ => ?_⟩, fun _ => ⟨fun e => absurd e (by decide), fun _ => ?_⟩⟩
  · refine ⟨modOk_of h1, divOk_of h1 (by omega), ?_⟩
    exact q _ _ (Int.emod_nonneg _ (by omega)) (Int.emod_lt_of_pos _ h1) ⟨_, _, _, _, ps _, Int.ediv_nonneg g0 (by omega), m0, m1, c0, by omega⟩ (eo _)
  all_goals
    refine ⟨powOk_of (by omega) (by decide) (by decide), powOk_of ?_ (by decide) (by decide), modOk_of h1, ?_⟩
    · have b1 := Int.emod_nonneg ((m + 104395301 * (c + 1) + 179424673) ^ Int.toNat 5) (show (2147483647 : Int) ≠ 0 by decide)
      have b2 := Int.emod_lt_of_pos ((m + 104395301 * (c + 1) + 179424673) ^ Int.toNat 5) (show (0 : Int) < 2147483647 by decide)
      generalize (m + 104395301 * (c + 1) + 179424673) ^ Int.toNat 5 % 2147483647 = X at *
      omega
    · exact q _ _ (Int.emod_nonneg _ (by omega)) (Int.emod_lt_of_pos _ h1) ⟨_, _, _, _, ps _, g0, m0, m1, by omega, by omega⟩ (eo _)
theorem take_p {many : Int} (h : Pr s r n w view xs v w' view' xs' v') (hn : n ≤ 1000000) (h1 : 0 < many) (h2 : many ≤ 1000000000000) {Q : Int → Sto K → Prop} (q : ∀ x s', 0 ≤ x → x < many → Pr s' r (n + 1) w view xs v w' view' xs' v' → Only r s s' → Q x s') : (m__law_take r many s).st Q :=
  take_b h.b hn h1 h2 fun x s' x0 x1 B O => q x s' x0 x1 (h.only B O) O
theorem box_ok {great : Int} {Q : Ref → Sto K → Prop} (q : ∀ a s', s.f a = none → Bx s' ⟨a⟩ 0 → (∀ c, c ≠ a → s'.f c = s.f c) → Q ⟨a⟩ s') : (m__law_box great s).st Q := by
  unfold m__law_box
  simp only [st_mb, st_mp, st_mnew]
  intro a ha
  refine q a _ ha ⟨_, _, _, _, Sto.put_same, ?_, Int.emod_nonneg _ (by decide), ?_, Int.le_refl _, Int.le_refl _⟩ fun b hb => Sto.put_ne hb
  · split <;> omega
  · have := Int.emod_lt_of_pos (if great < 0 then -great else great) (show (0 : Int) < 2147483629 by decide)
    omega
theorem cell_ok {ns : List Int} {i : Int} (h0 : 0 ≤ i) {Q : Int → Unit → Prop} (qq : ∀ x, Q x ()) : (m__law_cell ⟨ns⟩ i ()).st Q := by
  unfold m__law_cell
  simp only [st_mb, st_mp, st_mi, st_mo]
  refine ⟨fun g => ?_, fun g => qq _⟩
  have g := of_decide_eq_true g
  obtain ⟨v, ev, _⟩ := atI_some (xs := ns) h0 g
  exact ⟨v, ev, qq v⟩
/-- a new row: fresh objects -/
theorem row_ok {great : Bool} (B : Bx s r n) (hn : n ≤ 900000) {Q : Ref → Sto K → Prop} (q : ∀ a b ys v s', s.f a = none → s.f b = none → a ≠ b → Vs ys → Rest ys v → Ws s' ⟨a⟩ ⟨b⟩ ys v → Bx s' r (n + 2) → (∀ c, c ≠ a → c ≠ b → c ≠ r.a → s'.f c = s.f c) → Q ⟨a⟩ s') : (m__law_new_row r great s).st Q := by
  unfold m__law_new_row
  simp only [st_mb, st_mp, st_mc, st_mnew, st_mldD, st_mput]
  have hc : 0 < (cond great (63 : Int) 6) ∧ (cond great (63 : Int) 6) ≤ 63 := by cases great <;> decide
  refine take_b B (by omega) hc.1 (by omega) fun x s1 x0 x1 B1 O1 => take_b B1 (by omega) (by decide) (by decide) fun y s2 y0 y1 B2 O2 => ?_
  intro a ha
  have nr : ∀ {c : Addr} {t : Sto K} {m : Int}, Bx t r m → t.f c = none → c ≠ r.a := fun {c t m} B h e => by
    obtain ⟨_, _, _, _, q, _⟩ := B
    rw [e, q] at h
    cases h
  have ar : a ≠ r.a := nr B2 ha
  have hs : ∀ c, c ≠ r.a → s2.f c = s.f c := fun c hc => (O1.trans O2) c hc
  have rl : repL [y] (2 + x) = List.replicate (2 + x).toNat y := by
    unfold repL
    have : ∀ k : Nat, (List.replicate k [y]).flatten = List.replicate k y := fun k => by
      induction k with
      | zero => rfl
      | succ k ih => rw [List.replicate_succ, List.flatten_cons, ih]; rfl
    exact this _
  refine ⟨decide_eq_true ⟨by omega, by omega, ?_⟩, fun b hb => ?_⟩
  · show 1 * (2 + x).toNat ≤ _
    omega
  · have hab : b ≠ a := fun e => by rw [e, Sto.put_same] at hb; cases hb
    have hb2 : s2.f b = none := by rw [Sto.put_ne hab] at hb; exact hb
    have br : b ≠ r.a := nr B2 hb2
    refine ⟨[], by rw [Sto.put_ne (show (Ref.mk a).a ≠ b from hab.symm)]; exact Sto.put_same, by rfl, _, by rw [Sto.put_ne (show (Ref.mk a).a ≠ b from hab.symm)]; exact Sto.put_same, ?_⟩
    refine q a b (repL [y] (2 + x)) y _ (by rw [← hs a ar]; exact ha) (by rw [← hs b br]; exact hb2) hab.symm ?_ ?_ ⟨Sto.put_same, ?_⟩ ?_ fun c c1 c2 c3 => ?_
    · rw [rl]
      refine ⟨by rw [List.length_replicate]; omega, by rw [List.length_replicate]; omega, fun z hz => ?_⟩
      rw [List.eq_of_mem_replicate hz]
      omega
    · rw [rl]
      refine ⟨⟨y0, y1⟩, .inl fun i hi => ?_⟩
      rw [List.length_replicate] at hi
      rw [gd (by rw [List.length_replicate]; exact hi), List.getElem_replicate]
    · rw [Sto.put_ne (show (Ref.mk b).a ≠ (Ref.mk a).a from hab)]
      exact Sto.put_same
    · exact (((B2.put ar.symm).put br.symm).put ar.symm).mono (by omega)
    · rw [Sto.put_ne c1, Sto.put_ne c2, Sto.put_ne c1]
      exact hs c c3
theorem passed_ok {low : Int} (hl : s.f view.a = some (.lst (xs.map PyT.enc))) {Q : Sv Int → Sto K → Prop} (q : Q ⟨decide (low = 0), xs⟩ s) : (m__law_passed view low s).st Q := by
  unfold m__law_passed
  simp only [st_mb, st_mp, st_mi, st_mldT, st_mu]
  refine ⟨fun c => ⟨_, _, hl, decs_enc xs, ?_⟩, fun c => ⟨_, _, hl, decs_enc xs, ?_⟩⟩
  · rw [c] at q; exact q
  · rw [c] at q; exact q
end
end L40

namespace L40
open PySem L2 Mir Num
/-! the law's reading -/
section
variable {xs : List Int} {u v : Int}
theorem cnt_loop {ρ β : Type} {w : Int} {xs : List Int} {s : Unit} {Q : Ct ρ Int β → Unit → Prop} (q : Q (.nx (((xs.takeWhile fun c => decide (c = w)).length : Nat) : Int)) s) : (forC (β := β) xs (0 : Int) (fun x t => (mb (mp (!decide (x = w))) fun b => mi b
      (mp (.br t))
      (mb (mb (mp ((t + (1 : Int)) : Int)) fun y => mp y) fun x => mp (.nx x)))) s).st Q := by
  refine st_forC (Inv := fun rest (t : Int) s' => s' = s ∧ t + (((rest.takeWhile fun c => decide (c = w)).length : Nat) : Int) = (((xs.takeWhile fun c => decide (c = w)).length : Nat) : Int)) ?_ ?_ ⟨rfl, by omega⟩
  · rintro x rest t _ ⟨rfl, h⟩
    simp only [st_mb, st_mp, st_mi]
    rw [List.takeWhile_cons] at h
    refine ⟨fun c => ?_, fun c => ?_⟩
    · have c : decide (x = w) = false := by rw [Bool.not_eq_true'] at c; exact c
      rw [c, if_neg (by decide)] at h
      have e : t = (((xs.takeWhile fun c => decide (c = w)).length : Nat) : Int) := by simpa using h
      show Q (.nx t) _
      rw [e]
      exact q
    · have c : decide (x = w) = true := by rw [Bool.not_eq_false'] at c; exact c
      rw [c, if_pos rfl, List.length_cons] at h
      exact ⟨trivial, by omega⟩
  · rintro t _ ⟨rfl, h⟩
    have e : t = (((xs.takeWhile fun c => decide (c = w)).length : Nat) : Int) := by simpa using h
    rw [e]
    exact q
theorem form_ok {Q : Bool → Unit → Prop} (q : Q (fm xs u) ()) : (m__law_form xs u ()).st Q := by
  unfold m__law_form
  simp only [st_mb, st_mp]
  refine cnt_loop ?_
  show (mb _ _ ()).st _
  simp only [st_mb, st_mp]
  refine cnt_loop ?_
  show (mp _ ()).st _
  rw [st_mp]
  exact q
end
section
variable {K : PySem.W.Frag} {s s' : Sto K} {r w view w' view' : Ref} {n m : Int} {xs xs' ys : List Int} {v v' u : Int} {a : Addr} {o : Ob}
theorem at_enc {i : Int} (h0 : 0 ≤ i) (h1 : i < (xs.length : Nat)) : (atI (xs.map PyT.enc) i).bind (PyT.dec (α := Int)) = some (xs.getD i.toNat 0) := by
  rw [atI_get' h0 (by rw [List.length_map]; exact h1), List.getElem?_map, List.getElem?_eq_getElem (by omega), gd (by omega)]
  rfl
theorem con_filter : decide (((xs.filter fun a => !decide (a = xs.getD 0 0)).map fun a => a) = []) = con xs := by
  rw [List.map_id', Bool.eq_iff_iff, decide_eq_true_eq, List.filter_eq_nil_iff]
  unfold con
  rw [List.all_eq_true]
  constructor
  · intro h x hx
    have := h x hx
    simpa using this
  · intro h x hx
    have := h x hx
    simp at this
    simp [this]
theorem reading_ok (hl : s.f view.a = some (.lst (xs.map PyT.enc))) (h : Vs xs) (hu : ∃ u, 0 ≤ u ∧ u < 3 ∧ W xs u) {Q : L2h Int (List (Int × Int)) → Sto K → Prop} (q : Q (L2h.mk (rd xs).1 (rd xs).2) s) : (m__law_reading view s).st Q := by
  unfold m__law_reading
  have h1 := h.1
  have h2 := h.2.1
  have ld : ∀ {Q' : List Int → Sto K → Prop}, Q' xs s → (mldT Int view s).st Q' := fun h => st_mldT.mpr ⟨_, _, hl, decs_enc xs, h⟩
  have it : ∀ {i : Int}, 0 ≤ i → i < (xs.length : Nat) → ∀ {Q' : Int → Sto K → Prop}, Q' (xs.getD i.toNat 0) s → ∃ ps, s.f view.a = some (.lst ps) ∧ ∃ a, (atI ps i).bind (PyT.dec (α := Int)) = some a ∧ Q' a s := fun h0 h1 Q' q => ⟨_, hl, _, at_enc h0 h1, q⟩
  simp only [st_mb, st_mp, st_mi, st_mu, st_mo, st_mldL, st_mc]
  refine ld (st_cmP (p := fun a => !decide (a = xs.getD 0 0)) (g := fun a => a) (by omega) (fun a _ => ?_) (fun a _ _ => st_mp.mpr ⟨rfl, rfl⟩) ?_)
  · simp only [st_mb, st_mp, st_mo]
    exact ⟨_, at0 (by omega), rfl, trivial⟩
  rw [con_filter]
  refine ⟨fun g => ?_, fun g => ?_⟩
  · have e : rd xs = (xs.getD 0 0, []) := by unfold rd; rw [if_pos g]
    rw [e] at q
    exact it (by decide) (by omega) q
  · refine ld ⟨fun l => ?_, fun l => ?_⟩
    · have l := of_decide_eq_true l
      refine ⟨by decide, ?_⟩
      refine st_cmP (p := fm xs) (g := fun u => nx u) (by rw [rng_length]; decide) (fun u _ => ?_) (fun u _ _ => st_mp.mpr ⟨rfl, rfl⟩) ?_
      · simp only [st_mb, st_mu]
        exact ld (form_ok ⟨rfl, rfl⟩)
      · obtain ⟨x, ys, e⟩ := lb_ex h hu
        have ee : rd xs = (nx x, df xs (nx x)) := by unfold rd; rw [g, if_neg (by decide), if_neg (by omega), e]; rfl
        rw [ee] at q
        refine ⟨nx x, ?_, ?_⟩
        · show atI ((lb xs).map _) 0 = _
          rw [e, List.map_cons, at0 (by simp)]
          rfl
        · refine ld ⟨b62_of (by omega) (by omega), ?_⟩
          refine st_cmP (p := fun i => !decide (xs.getD i.toNat 0 = nx x)) (g := fun i => (i, nx x)) (by rw [rng_length]; omega) (fun i hi => ?_) (fun i _ _ => st_mp.mpr ⟨rfl, rfl⟩) ?_
          · have := mem_rng.mp hi
            simp only [st_mb, st_mp, st_mo, st_mldL]
            exact ⟨_, hl, _, at_enc (by omega) (by omega), rfl, trivial⟩
          · rw [Int.toNat_natCast]
            exact q
    · have l := of_decide_eq_false l
      have l : xs.length = 2 := by omega
      have e : rd xs = r2 (xs.getD 0 0) (xs.getD 1 0) := by unfold rd; rw [g, if_neg (by decide), if_pos l]
      rw [e] at q
      refine ld ⟨decide_eq_true l, fun a => ?_, fun a => ⟨fun b => ?_, fun b => ?_⟩⟩
      · have a := of_decide_eq_true a
        unfold r2 at q
        rw [if_pos a] at q
        exact q
      · have a := of_decide_eq_false a
        rw [Bool.or_eq_true, decide_eq_true_eq, decide_eq_true_eq] at b
        have b : 2 < xs.getD 1 0 ∨ xs.getD 0 0 = nx (xs.getD 1 0) := b
        unfold r2 at q
        rw [if_neg a, if_pos b] at q
        exact q
      · have a := of_decide_eq_false a
        rw [Bool.or_eq_false_iff, decide_eq_false_iff_not, decide_eq_false_iff_not] at b
        unfold r2 at q
        rw [if_neg a, if_neg fun h => h.elim b.1 b.2] at q
        exact q
theorem shd_ps {L : List (Int × Int)} {l : Nat} (hl : L.length ≤ l) (l2 : l ≤ 100) (h : ∀ w ∈ L, (0 ≤ w.1 ∧ w.1 < 1000) ∧ 0 ≤ w.2 ∧ w.2 < 1000) : rprDok L = true := by
  refine rprDok_of (shd_L (n := 2 * (10 + 2) + 4) fun w hw => ?_) ?_
  · have := h w hw
    exact shd_P (shd_I (by omega) (by omega)) (shd_I (by omega) (by omega))
  · have : L.length ≤ 100 := by omega
    have := Nat.mul_le_mul_right (2 * (10 + 2) + 4 + 2) this
    omega
theorem shd_i {x : Int} (h0 : 0 ≤ x) (h1 : x < 1000) : rprDok x = true := rprDok_of (shd_I (by omega) (by omega)) (by decide)
theorem shd_q {t : Bool} (h : Vs xs) : rprDok (Sq.mk t xs) = true := by
  refine rprDok_of (shd_Q (n := 10) fun x hx => ?_) ?_
  · have := h.2.2 x hx
    exact shd_I (by omega) (by omega)
  · have := Nat.mul_le_mul_right (10 + 2) h.2.1
    omega
theorem shd_s {t : Bool} (h : Vs xs) : rprDok (Sv.mk t xs) = true := shd_q h
end
end L40

namespace L40
open PySem L2 Mir Num
/-! what is asked of a view -/
section
variable {K : PySem.W.Frag} {s s' : Sto K} {r w view w' view' : Ref} {n m : Int} {xs xs' ys : List Int} {v v' u : Int} {a : Addr} {o : Ob}
/-- what the view of a row is -/
theorem vw_ok (h : Ws s w view xs v) {Q : Ref → Prop} (q : Q view) : ∃ ps, s.f w.a = some (.dic ps) ∧ ∃ a, (getP ps (Ky.key ("view" : Str))).bind (PyT.dec (α := Ref)) = some a ∧ Q a :=
  ⟨_, h.d, view, by rw [get_vw]; exact PyT.ed view, q⟩
theorem vl_ok (h : Ws s w view xs v) {Q : Int → Prop} (q : Q v) : ∃ ps, s.f w.a = some (.dic ps) ∧ ∃ a, (getP ps (Ky.key ("value" : Str))).bind (PyT.dec (α := Int)) = some a ∧ Q a :=
  ⟨_, h.d, v, by rw [get_vl]; exact PyT.ed v, q⟩
theorem ld_ok (h : Ws s w view xs v) {Q : List Int → Sto K → Prop} (q : Q xs s) : (mldT Int view s).st Q := st_mldT.mpr ⟨_, _, h.l, decs_enc xs, q⟩
theorem rd_rpr (h : Vs xs) (hu : ∃ u, 0 ≤ u ∧ u < 3 ∧ W xs u) : rprDok (rd xs).2 = true ∧ (0 ≤ (rd xs).1 ∧ (rd xs).1 < 3) := by
  obtain ⟨u, u0, u1, hw⟩ := hu
  have hv := rd_val h u0 u1 hw
  have hn := nx_lo u
  have hr : 0 ≤ (rd xs).1 ∧ (rd xs).1 < 3 := by omega
  refine ⟨shd_ps (l := 64) (Nat.le_trans rd_len h.2.1) (by decide) fun w hw => ?_, hr⟩
  have := rd_fst w hw
  have := rd_snd w hw
  have := h.2.1
  omega
theorem told_right_ok (P : Pr s r n w view xs v w' view' xs' v') (hn : n ≤ 900000) (h : Vs xs) (u0 : 0 ≤ u) (u1 : u < 3) (hw : W xs u) {pair : List Int} (p1 : u ∈ pair) (p2 : nx u ∈ pair) {Q : Bool → Sto K → Prop} (q : ∀ s', Pr s' r (n + 1) w view xs v w' view' xs' v' → Q true s') : (m__law_told_right r w u pair s).st Q := by
  have hu : ∃ u, 0 ≤ u ∧ u < 3 ∧ W xs u := ⟨u, u0, u1, hw⟩
  obtain ⟨rp, rv⟩ := rd_rpr h hu
  have hp : (rd xs).1 ∈ pair := by
    rcases rd_val h u0 u1 hw with e | e
    · rw [e]; exact p1
    · rw [e]; exact p2
  unfold m__law_told_right
  simp only [st_mb, st_mp, st_mi, st_mo, st_mldD]
  refine vw_ok P.t.a ?_
  refine take_p P (by omega) (by decide) (by decide) fun low s1 l0 l1 P1 O1 => ?_
  refine reading_ok P1.t.a.l h hu ⟨fun c => ?_, fun c => ?_⟩
  · rw [decide_eq_true hp] at c
    cases c
  refine ld_ok P1.t.a ?_
  simp only [st_mu]
  refine form_ok ?_
  rw [(fm_W (by have := h.1; omega)).mpr hw]
  refine ⟨fun e => absurd e (by decide), fun _ => ?_⟩
  refine passed_ok P1.t.a.l ?_
  rw [st_mc]
  refine ⟨by decide, ?_⟩
  refine st_forC (Inv := fun _ _ s' => Pr s' r (n + 1) w view xs v w' view' xs' v') ?_ ?_ P1
  · rintro x rest _ s2 P2
    have ask : ∀ (t : Bool) {Z : Sto K → Prop}, (m_three_mending (K := K) ⟨t, xs⟩ s2).st fun a s' =>
        (mldT (Int × Int) a s').st fun a_1 s' =>
          (mu (mc (rprDok a_1) (rprD a_1)) s').st fun a_2 s' =>
            (mc (rprDok (rd xs).snd) (rprD (rd xs).snd) s').st fun a_3 s' =>
              ((!decide (a_2 = a_3)) = true → Z s') ∧
                ((!decide (a_2 = a_3)) = false →
                  (mldL a s').st fun a_5 s' =>
                    (mldL a s').st fun a_6 s' =>
                      (mc (lenOk a_6.length) () s').st fun a_7 s' =>
                        (mput a (Ob.lst (a_6 ++ [PyT.enc ((0 : Int), (0 : Int))])) s').st fun a_8 s' =>
                          (mldL a s').st fun a_9 s' =>
                            (mput a (Ob.lst a_9.reverse) s').st fun a s' =>
                              Pr s' r (n + 1) w view xs v w' view' xs' v') := fun t Z => by
      refine mending_ok h hu fun a ha => ?_
      refine st_mldT.mpr ⟨_, _, Sto.put_same, decs_enc _, ?_⟩
      refine st_mu.mpr (st_mc.mpr ⟨rp, st_mc.mpr ⟨rp, fun e => ?_, fun _ => ?_⟩⟩)
      · simp at e
      · simp only [st_mldL, st_mc, st_mput]
        refine ⟨_, Sto.put_same, _, Sto.put_same, ?_, _, Sto.put_same, _, Sto.put_same, _, Sto.put_same, P2.off ha fun c hc => ?_⟩
        · refine decide_eq_true ?_
          rw [List.length_map]
          have := rd_len (xs := xs)
          have := h.2.1
          omega
        · rw [Sto.put_ne hc, Sto.put_ne hc, Sto.put_ne hc]
    simp only [st_mb, st_mp, st_mi]
    exact ⟨fun _ => ask _, fun _ => ask _⟩
  · rintro _ s2 P2
    show (mb _ _ s2).st _
    simp only [st_mb, st_mp, st_mi, st_mc]
    refine st_mu.mpr (can_ok h (lb_ex h hu) ?_)
    refine ⟨fun e => absurd e (by decide), fun _ => ?_⟩
    refine told_ok h hu fun a o ha => ⟨shd_i rv.1 (by omega), shd_i rv.1 (by omega), fun e => ?_, fun _ => ⟨shd_q h, ?_⟩⟩
    · simp at e
    · have P3 := P2.off (s' := s2.put a o) ha fun c hc => Sto.put_ne hc
      refine passed_ok P3.t.a.l ⟨shd_s h, ?_⟩
      have := q _ P3
      rw [show decide (rprD (Sq.mk (decide (low = 0)) xs) = rprD (Sv.mk (decide (low = 0)) xs)) = true from decide_eq_true rfl]
      exact this
theorem content_ok {great : Bool} (P : Pr s r n w view xs v w' view' xs' v') (hn : n ≤ 900000) {Q : Int → Sto K → Prop} (q : ∀ x s', 0 ≤ x → x ≤ 996 → Pr s' r (n + 3) w view xs v w' view' xs' v' → Q x s') : (m__law_content r great s).st Q := by
  unfold m__law_content
  simp only [st_mb, st_mp]
  refine take_p P (by omega) (by decide) (by decide) fun x s1 x0 x1 P1 _ => ?_
  refine take_p P1 (by omega) (by decide) (by decide) fun y s2 y0 y1 P2 _ => ?_
  refine take_p P2 (by omega) (by decide) (by decide) fun z s3 z0 z1 P3 _ => ?_
  refine q _ _ ?_ ?_ (P3.mono (by omega))
  · cases decide (x = 0) <;> dsimp only [cond] <;> omega
  · cases decide (x = 0) <;> dsimp only [cond] <;> omega
theorem written_ok : ∀ {ws : List (Int × Int)} {xs : List Int} {s : Sto K}, Pr s r n w view xs v w' view' xs' v' → (∀ z ∈ ws, 0 ≤ z.1 ∧ z.1 < (xs.length : Nat)) → ∀ {Q : Unit → Sto K → Prop}, (∀ s', Pr s' r n w view (wr xs ws) v w' view' xs' v' → Q () s') → (m__law_written w ws s).st Q := by
  intro ws xs s P hz Q q
  unfold m__law_written
  simp only [st_mb, st_mp]
  refine st_forP (Inv := fun rest _ s' => ∃ ys, Pr s' r n w view ys v w' view' xs' v' ∧ ys.length = xs.length ∧ wr ys rest = wr xs ws ∧ ∀ z ∈ rest, 0 ≤ z.1 ∧ z.1 < (xs.length : Nat)) ?_ ?_ ⟨xs, P, rfl, rfl, hz⟩
  · rintro z rest _ s1 ⟨ys, P1, hl, e, hz⟩
    have hz1 := hz z (List.mem_cons_self ..)
    simp only [st_mb, st_mp, st_mi, st_mo, st_mldD, st_mldL, st_mput]
    refine vw_ok P1.t.a ?_
    refine ⟨_, P1.t.a.l, z.1.toNat, ?_, _, P1.t.a.l, ys.set z.1.toNat z.2, ?_, by rw [List.length_set]; exact hl, e, fun y hy => hz y (List.mem_cons_of_mem _ hy)⟩
    · unfold ixN
      rw [List.length_map, if_pos hz1.1, if_pos (by omega)]
    · rw [← List.map_set]
      exact P1.setL
  · rintro _ s1 ⟨ys, P1, hl, e, _⟩
    have e : ys = wr xs ws := e
    rw [e] at P1
    exact q _ P1
theorem losses_ok (P : Pr s r n w view xs v w' view' xs' v') (hn : n ≤ 900000) (h : Vs xs) (hw : W xs u) {Q : Unit → Sto K → Prop} (q : ∀ s' view2 ys, Pr s' r (n + 130) w view2 ys v w' view' xs' v' → Vs ys → W ys u → Q () s') : (m__law_losses r w s).st Q := by
  unfold m__law_losses
  simp only [st_mb, st_mp, st_mo, st_mc]
  refine take_p P (by omega) (by decide) (by decide) fun x s1 x0 x1 P1 _ => ?_
  refine take_p P1 (by omega) (by decide) (by decide) fun y s2 y0 y1 P2 _ => ?_
  obtain ⟨k, ek, hk⟩ := atI_some (xs := [(0 : Int), y, 63]) x0 x1
  have hk : 0 ≤ k ∧ k ≤ 63 := by
    simp only [List.mem_cons, List.not_mem_nil, or_false] at hk
    omega
  refine ⟨k, ek, b62_of (by omega) (by omega), ?_⟩
  refine st_forP (Inv := fun rest t s' => t = w ∧ ∃ view2 ys, Pr s' r (n + 128 - 2 * (rest.length : Nat)) w view2 ys v w' view' xs' v' ∧ Vs ys ∧ W ys u ∧ rest.length ≤ 63) ?_ ?_ ⟨rfl, view, xs, P2.mono (by rw [rng_length]; omega), h, hw, by rw [rng_length]; omega⟩
  · rintro z rest w s3 ⟨rfl, view2, ys, P3, h3, w3, l3⟩
    rw [List.length_cons] at P3 l3
    have P3 : Pr s3 r (n + 126 - 2 * (rest.length : Nat)) w view2 ys v w' view' xs' v' := P3.mono (by omega)
    simp only [st_mb, st_mp, st_mi, st_mo, st_mldD, st_mldL, st_mput, st_mnew, st_mc]
    refine vw_ok P3.t.a (ld_ok P3.t.a ?_)
    have stay : ∀ {s4 : Sto K} {m : Int}, m ≤ n + 128 - 2 * (rest.length : Nat) → Pr s4 r m w view2 ys v w' view' xs' v' → ∃ view2 ys, Pr s4 r (n + 128 - 2 * (rest.length : Nat)) w view2 ys v w' view' xs' v' ∧ Vs ys ∧ W ys u ∧ rest.length ≤ 63 := fun l P => ⟨view2, ys, P.mono l, h3, w3, by omega⟩
    refine ⟨fun g => ⟨fun _ => ⟨fun _ => ?_, fun e => absurd e (by decide)⟩, fun _ => ?_⟩, fun _ => ⟨fun e => absurd e (by decide), fun _ => ⟨trivial, stay (by omega) P3⟩⟩⟩
    · have P4 : Pr s3 r (n + 127 - 2 * (rest.length : Nat)) w view2 ys v w' view' xs' v' := P3.mono (by omega)
      have g := of_decide_eq_true g
      have h1 := h3.2.1
      refine vw_ok P4.t.a (ld_ok P4.t.a ?_)
      refine take_p P4 (by omega) (by omega) (by omega) fun at_ s5 a0 a1 P5 _ => ?_
      refine vw_ok P5.t.a (ld_ok P5.t.a (vw_ok P5.t.a (ld_ok P5.t.a ?_)))
      rw [cutL_to a0, cutL_from (by omega), show (at_ + 1).toNat = at_.toNat + 1 by omega, ← List.eraseIdx_eq_take_drop_succ]
      refine ⟨decide_eq_true (by rw [List.length_take, List.length_drop]; omega), fun b hb => ?_⟩
      have P6 := P5.newL (ys := ys.eraseIdx at_.toNat) hb
      have hd : (s5.put b (.lst ((ys.eraseIdx at_.toNat).map PyT.enc))).f w.a = some (obV view2 v) := by
        rw [Sto.put_ne fun e => by rw [← e, P5.t.a.d] at hb; cases hb]
        exact P5.t.a.d
      refine ⟨_, hd, by rfl, _, hd, trivial, ⟨b⟩, ys.eraseIdx at_.toNat, ?_, vs_lost (by omega) h3, W_lost (by omega) (by omega) w3, by omega⟩
      rw [put_vw]
      exact P6.mono (by omega)
    · refine take_p P3 (by omega) (by decide) (by decide) fun x4 s4 x40 x41 P4 _ => ⟨fun _ => ?_, fun _ => ⟨trivial, stay (by omega) P4⟩⟩
      have g := of_decide_eq_true g
      have h1 := h3.2.1
      refine vw_ok P4.t.a (ld_ok P4.t.a ?_)
      refine take_p P4 (by omega) (by omega) (by omega) fun at_ s5 a0 a1 P5 _ => ?_
      refine vw_ok P5.t.a (ld_ok P5.t.a (vw_ok P5.t.a (ld_ok P5.t.a ?_)))
      rw [cutL_to a0, cutL_from (by omega), show (at_ + 1).toNat = at_.toNat + 1 by omega, ← List.eraseIdx_eq_take_drop_succ]
      refine ⟨decide_eq_true (by rw [List.length_take, List.length_drop]; omega), fun b hb => ?_⟩
      have P6 := P5.newL (ys := ys.eraseIdx at_.toNat) hb
      have hd : (s5.put b (.lst ((ys.eraseIdx at_.toNat).map PyT.enc))).f w.a = some (obV view2 v) := by
        rw [Sto.put_ne fun e => by rw [← e, P5.t.a.d] at hb; cases hb]
        exact P5.t.a.d
      refine ⟨_, hd, by rfl, _, hd, trivial, ⟨b⟩, ys.eraseIdx at_.toNat, ?_, vs_lost (by omega) h3, W_lost (by omega) (by omega) w3, by omega⟩
      rw [put_vw]
      exact P6.mono (by omega)
  · rintro _ s3 ⟨rfl, view2, ys, P3, h3, w3, _⟩
    exact q s3 view2 ys (P3.mono (by simp)) h3 w3
end
end L40

namespace L40
open PySem L2 Mir Num
/-! openings, rests -/
section
variable {K : PySem.W.Frag} {s s' : Sto K} {r w view w' view' : Ref} {n m : Int} {xs xs' ys : List Int} {v v' u : Int} {a : Addr} {o : Ob}
theorem cut_wr {ws : List (Int × Int)} {k : Int} {t : Int} (h0 : 0 ≤ k) (h1 : k < (ws.length : Nat)) : ∃ z, atI ws k = some z ∧ z = ws[k.toNat]'(by omega) ∧ cutL ws none (some k) = ws.take k.toNat := by
  refine ⟨ws[k.toNat]'(by omega), ?_, rfl, cutL_to h0⟩
  rw [atI_get' h0 h1, List.getElem?_eq_getElem]
theorem wr_torn {ws : List (Int × Int)} {k : Nat} (hk : k < ws.length) {t : Int} : wr xs (ws.take k ++ [((ws[k]).1, t)]) = (wr xs (ws.take k)).set (ws[k]).1.toNat t := by
  rw [wr_app]
  rfl
theorem opened_ok (P : Pr s r n w view xs v w' view' xs' v') (hn : n ≤ 800000) (h : Vs xs) (u0 : 0 ≤ u) (u1 : u < 3) (hw : W xs u) {pair : List Int} (p1 : u ∈ pair) (p2 : nx u ∈ pair) {Q : Bool → Sto K → Prop} (q : ∀ s' view2 ys x, Pr s' r (n + 600) w view2 ys x w' view' xs' v' → Vs ys → Rest ys x → Q true s') : (m__law_opened r w u pair s).st Q := by
  unfold m__law_opened
  simp only [st_mb, st_mp, st_mc]
  refine take_p P (by omega) (by decide) (by decide) fun k s1 k0 k1 P1 _ => ⟨b62_of (by omega) (by omega), ?_⟩
  refine st_forC (Inv := fun rest _ s' => ∃ view2 ys, Pr s' r (n + 500 - 150 * (rest.length : Nat)) w view2 ys v w' view' xs' v' ∧ Vs ys ∧ W ys u ∧ rest.length ≤ 3) ?_ ?_ ⟨view, xs, P1.mono (by rw [rng_length]; omega), h, hw, by rw [rng_length]; omega⟩
  · rintro x rest _ s2 ⟨view2, ys, P2, h2, w2, l2⟩
    rw [List.length_cons] at P2 l2
    have P2 : Pr s2 r (n + 350 - 150 * (rest.length : Nat)) w view2 ys v w' view' xs' v' := P2.mono (by omega)
    have hu : ∃ u, 0 ≤ u ∧ u < 3 ∧ W ys u := ⟨u, u0, u1, w2⟩
    simp only [st_mb, st_mp, st_mi, st_mo, st_mldD, st_mldL, st_mput, st_mnew, st_mc]
    refine told_right_ok P2 (by omega) h2 u0 u1 w2 p1 p2 fun s3 P3 => ⟨fun e => absurd e (by decide), fun _ => ?_⟩
    refine vw_ok P3.t.a (reading_ok P3.t.a.l h2 hu ⟨fun g => ?_, fun g => ?_⟩)
    · have g : (rd ys).2 ≠ [] := by simpa using g
      have gl : 0 < (rd ys).2.length := List.length_pos_iff.mpr g
      have l64 : (rd ys).2.length ≤ 64 := Nat.le_trans rd_len h2.2.1
      refine take_p P3 (by omega) (by show 0 < (((rd ys).2.length : Nat) : Int); omega) (by show (((rd ys).2.length : Nat) : Int) ≤ _; omega) fun c s4 c0 c1 P4 _ => ?_
      have c1 : c < (((rd ys).2.length : Nat) : Int) := c1
      refine content_ok P4 (by omega) fun t s5 t0 t1 P5 => ?_
      obtain ⟨z, e1, e2, e3⟩ := cut_wr (t := t) c0 c1
      refine ⟨z, e1, ?_⟩
      rw [e3, e2]
      refine ⟨decide_eq_true (by rw [List.length_take]; show min _ _ + 1 ≤ _; omega), ?_⟩
      refine written_ok P5 (fun y hy => ?_) fun s6 P6 => ?_
      · rcases List.mem_append.mp hy with hy | hy
        · exact rd_fst y (List.mem_of_mem_take hy)
        · rw [List.mem_singleton.mp hy]
          exact rd_fst ((rd ys).2[c.toNat]'(by omega)) (List.getElem_mem _)
      · have hr := (rd_rpr h2 hu).2
        have hlt : c.toNat < (rd ys).2.length := by omega
        have hv6 : Vs (wr ys ((rd ys).2.take c.toNat ++ [(((rd ys).2[c.toNat]'hlt).1, t)])) := vs_wr h2 fun y hy => by
          rcases List.mem_append.mp hy with hy | hy
          · have := rd_snd y (List.mem_of_mem_take hy)
            omega
          · rw [List.mem_singleton.mp hy]
            exact ⟨t0, t1⟩
        have hw6 : W (wr ys ((rd ys).2.take c.toNat ++ [(((rd ys).2[c.toNat]'hlt).1, t)])) u := by
          rw [wr_torn]
          exact mend_torn h2 u0 u1 w2 hlt
        refine losses_ok P6 (by omega) hv6 hw6 fun s7 view7 zs P7 h7 w7 => ⟨view7, zs, P7.mono (by omega), h7, w7, by omega⟩
    · refine losses_ok P3 (by omega) h2 w2 fun s7 view7 zs P7 h7 w7 => ⟨view7, zs, P7.mono (by omega), h7, w7, by omega⟩
  · rintro _ s2 ⟨view2, ys, P2, h2, w2, l2⟩
    have P2 : Pr s2 r (n + 500) w view2 ys v w' view' xs' v' := P2.mono (by simp)
    have hu : ∃ u, 0 ≤ u ∧ u < 3 ∧ W ys u := ⟨u, u0, u1, w2⟩
    show (mb _ _ s2).st _
    simp only [st_mb, st_mp, st_mi, st_mo, st_mldD, st_mldL, st_mput, st_mnew, st_mc]
    refine told_right_ok P2 (by omega) h2 u0 u1 w2 p1 p2 fun s3 P3 => ⟨fun e => absurd e (by decide), fun _ => ?_⟩
    refine vw_ok P3.t.a (reading_ok P3.t.a.l h2 hu ?_)
    refine written_ok P3 (fun y hy => rd_fst y hy) fun s4 P4 => ?_
    refine ⟨_, P4.t.a.d, by rfl, _, P4.t.a.d, ?_⟩
    rw [put_vl]
    have hr := (rd_rpr h2 hu).2
    refine q _ view2 (wr ys (rd ys).2) (rd ys).1 (P4.setV.mono (by omega)) (vs_wr h2 fun y hy => ?_) (mend_full h2 u0 u1 w2)
    have := rd_snd y hy
    omega
theorem er_map {α β : Type} {f : α → β} : ∀ {l : List α} {i : Nat}, (l.map f).eraseIdx i = (l.eraseIdx i).map f
  | [], _ => rfl
  | x :: l, 0 => rfl
  | x :: l, i + 1 => by
    show f x :: (l.map f).eraseIdx i = f x :: (l.eraseIdx i).map f
    rw [er_map]
/-- apart from all -/
structure Ap (a : Addr) (r w view w' view' : Ref) : Prop where
  r : a ≠ r.a
  w : a ≠ w.a
  v : a ≠ view.a
  w' : a ≠ w'.a
  v' : a ≠ view'.a
theorem Pr.ap (h : Pr s r n w view xs v w' view' xs' v') (ha : s.f a = none) : Ap a r w view w' view' := by
  have na : ∀ c, s.f c ≠ none → a ≠ c := fun c hc e => hc (by rw [← e]; exact ha)
  refine ⟨?_, na _ ?_, na _ ?_, na _ ?_, na _ ?_⟩
  · obtain ⟨g, f, m, c, q, _⟩ := h.b
    exact na _ (by rw [q]; exact fun e => by cases e)
  · rw [h.t.a.d]; exact fun e => by cases e
  · rw [h.t.a.l]; exact fun e => by cases e
  · rw [h.t.b.d]; exact fun e => by cases e
  · rw [h.t.b.l]; exact fun e => by cases e
theorem Pr.putA (h : Pr s r n w view xs v w' view' xs' v') (p : Ap a r w view w' view') : Pr (s.put a o) r n w view xs v w' view' xs' v' :=
  ⟨h.b.put p.r.symm, ⟨h.t.a.same (Sto.put_ne p.w.symm) (Sto.put_ne p.v.symm), h.t.b.same (Sto.put_ne p.w'.symm) (Sto.put_ne p.v'.symm), h.t.nw, h.t.nv⟩⟩
theorem rests_ok (P : Pr s r n w view xs v w' view' xs' v') (hn : n ≤ 800000) (h : Vs xs) (hr : Rest xs v) {Q : Bool → Sto K → Prop} (q : ∀ s', Pr s' r (n + 5) w view xs v w' view' xs' v' → Q true s') : (m__law_rests r w s).st Q := by
  unfold m__law_rests
  simp only [st_mb, st_mp, st_mo, st_mldD, st_mldL, st_mput, st_mnew, st_mc]
  refine vw_ok P.t.a (vw_ok P.t.a (ld_ok P.t.a ?_))
  intro a ha
  have A := P.ap ha
  have P1 := P.putA (o := .lst (xs.map PyT.enc)) A
  refine take_p P1 (by omega) (by decide) (by decide) fun k s1 k0 k1 P2 O2 => ⟨b62_of (by omega) (by omega), ?_⟩
  refine st_forP (Inv := fun rest t s' => t = Ref.mk a ∧ rest.length ≤ 3 ∧ Pr s' r (n + 5 - (rest.length : Nat)) w view xs v w' view' xs' v' ∧ ∃ ys, s'.f a = some (.lst (ys.map PyT.enc)) ∧ Vs ys ∧ Rest ys v) ?_ ?_ ⟨rfl, by rw [rng_length]; omega, P2.mono (by rw [rng_length]; omega), xs, by rw [O2 a A.r]; exact Sto.put_same, h, hr⟩
  · rintro x rest _ s2 ⟨rfl, l2, P3, ys, e3, h3, r3⟩
    rw [List.length_cons] at P3 l2
    have ld : ∀ {s : Sto K}, s.f a = some (.lst (ys.map PyT.enc)) → ∀ {Q' : List Int → Sto K → Prop}, Q' ys s → (mldT Int ⟨a⟩ s).st Q' := fun e Q' h => st_mldT.mpr ⟨_, _, e, decs_enc ys, h⟩
    simp only [st_mb, st_mp, st_mi, st_mo, st_mldD, st_mldL, st_mput, st_mnew, st_mc]
    refine ld e3 ?_
    rw [st_mu, st_mp]
    refine ⟨fun g => ?_, fun _ => ⟨trivial, by omega, P3.mono (by omega), ys, e3, h3, r3⟩⟩
    have g := of_decide_eq_true g
    have h64 := h3.2.1
    refine ⟨_, e3, ld e3 ?_⟩
    rw [st_mu, st_mp]
    refine take_p P3 (by omega) (by omega) (by omega) fun i s3 i0 i1 P4 O4 => ?_
    have e4 : s3.f a = some (.lst (ys.map PyT.enc)) := by rw [O4 a A.r]; exact e3
    have hi : i.toNat < ys.length := by omega
    refine ⟨_, e4, (ys.getD i.toNat 0, (ys.eraseIdx i.toNat).map PyT.enc), ?_, _, e4, ?_⟩
    · rw [if_pos (decide_eq_true ⟨by omega, by omega⟩)]
      unfold ixN
      rw [List.length_map, if_pos i0, if_pos i1, Option.bind_some, List.getElem?_map, List.getElem?_eq_getElem hi, gd hi, er_map]
      rfl
    · exact ⟨trivial, by omega, (P4.putA A).mono (by omega), _, Sto.put_same, vs_lost (by omega) h3, rest_lost (by omega) hi r3⟩
  · rintro _ s2 ⟨rfl, _, P3, ys, e3, h3, r3⟩
    have P3 : Pr s2 r (n + 5) w view xs v w' view' xs' v' := P3.mono (by simp)
    refine st_forC (Inv := fun rest _ s' => (∀ z ∈ rest, z = view ∨ z = Ref.mk a) ∧ Pr s' r (n + 5) w view xs v w' view' xs' v' ∧ s'.f a = some (.lst (ys.map PyT.enc))) ?_ ?_ ⟨fun z hz => by simpa using hz, P3, e3⟩
    · rintro z rest _ s3 ⟨hz, P4, e4⟩
      have hz2 : ∀ y ∈ rest, y = view ∨ y = Ref.mk a := fun y hy => hz y (List.mem_cons_of_mem _ hy)
      obtain ⟨zs, ez, hzv, hzr⟩ : ∃ zs, (∀ t : Sto K, Pr t r (n + 5) w view xs v w' view' xs' v' → t.f a = some (.lst (ys.map PyT.enc)) → t.f z.a = some (.lst (zs.map PyT.enc))) ∧ Vs zs ∧ Rest zs v := by
        rcases hz z (List.mem_cons_self ..) with rfl | rfl
        · exact ⟨xs, fun t P _ => P.t.a.l, h, hr⟩
        · exact ⟨ys, fun t _ e => e, h3, r3⟩
      have hu := rest_W hzv hzr
      have er := rest_rd hzv hzr
      have v0 := hzr.1
      have keep : ∀ {t : Sto K} {b : Addr} {o : Ob}, t.f a = some (.lst (ys.map PyT.enc)) → t.f b = none → (t.put b o).f a = some (.lst (ys.map PyT.enc)) := fun e hb => by
        rw [Sto.put_ne fun c => by rw [c, hb] at e; cases e]
        exact e
      simp only [st_mb, st_mp, st_mi, st_mo, st_mldD, st_mldL, st_mput, st_mnew, st_mc]
      refine st_mldT.mpr ⟨_, _, ez _ P4 e4, decs_enc zs, ?_⟩
      rw [st_mu, st_mp]
      refine told_ok hzv hu fun b o hb => ?_
      have P5 := P4.off (s' := s3.put b o) hb fun c hc => Sto.put_ne hc
      have e5 := keep (o := o) e4 hb
      rw [er]
      refine ⟨shd_i v0.1 (by omega), vl_ok P5.t.a ⟨shd_i v0.1 (by omega), fun e => by simp at e, fun _ => ?_⟩⟩
      refine st_mldT.mpr ⟨_, _, ez _ P5 e5, decs_enc zs, ?_⟩
      rw [st_mu, st_mb, st_mp, st_mp]
      refine mending_ok hzv hu fun b2 hb2 => ?_
      have P6 := P5.off (s' := (s3.put b o).put b2 (.lst ((rd zs).2.map PyT.enc))) hb2 fun c hc => Sto.put_ne hc
      refine st_mldT.mpr ⟨_, _, Sto.put_same, decs_enc _, ?_⟩
      rw [er]
      refine ⟨fun e => by simp at e, fun _ => ⟨hz2, ?_, ?_⟩⟩
      · rw [er] at P6; exact P6
      · rw [er] at P6; exact keep e5 hb2
    · rintro _ s3 ⟨_, P4, e4⟩
      show (mb _ _ s3).st _
      simp only [st_mb, st_mp, st_mi, st_mo, st_mldD, st_mldL, st_mput, st_mnew, st_mc]
      refine ld_ok P4.t.a ?_
      rw [st_mu, st_mp]
      refine vl_ok P4.t.a ?_
      refine steps_ok h hr hr.1.1 hr.1.2 fun b o hb => ?_
      have e : wz xs v v = [] := if_pos rfl
      rw [e]
      exact q _ (P4.off hb fun c hc => Sto.put_ne hc)
end
end L40

namespace L40
open PySem L2 Mir Num
/-! changes, the law -/
section
variable {K : PySem.W.Frag} {s s' : Sto K} {r w view w' view' : Ref} {n m : Int} {xs xs' ys : List Int} {v v' u : Int} {a : Addr} {o : Ob}
/-- a change, once the writes are known (text of the mirror) -/
def chgR {K : PySem.W.Frag} (box world : Ref) (z588 : Int × Int × Int × Unit) (z604 : Int × Int × Ref × Unit) (t622 : List (Int × Int)) : Mn (Sto K) Bool :=
  (mb (mb (mb (mp z604.2.2.1) fun x_626 => mb (mb (mp z588.2.2.1) fun x_624 => mb (mp ()) fun z625 => mp (x_624, z625)) fun z627 => mp (x_626, z627)) fun z628 => (m__law_passed z628.1 z628.2.1)) fun handed629 =>
  (mb (mb (mc (b62 ((2 : Int) : Int)) (rng 0 ((2 : Int) : Int).toNat)) fun xs => forC (β := Empty) xs () fun a631 (t630 : Unit) =>
    (mb (mb (mp (decide (z588.2.1 = (0 : Int)))) fun b642 => mi b642 (mb (mb (mp handed629) fun x_634 => mb (mb (mp z604.2.1) fun x_632 => mb (mp ()) fun z633 => mp (x_632, z633)) fun z635 => mp (x_634, z635)) fun z636 => (m_three_steps z636.1 z636.2.1)) (mb (mb (mp z604.2.1) fun x_639 => mb (mb (mp handed629) fun x_637 => mb (mp ()) fun z638 => mp (x_637, z638)) fun z640 => mp (x_639, z640)) fun z641 => (m_three_steps z641.2.1 z641.1))) fun told643 =>
    (mb (mu (mb (mc (rprDok told643) (rprD told643)) fun x_644 => mb (mc (rprDok t622) (rprD t622)) fun y645 => mp (!decide (x_644 = y645)))) fun b => mi b
      (mb (mp false) fun x => mp (.rt x))
      (mb (mb (mb (mp (((0 : Int), z604.2.1) : (Int × Int))) fun _ => mc (lenOk told643.length) ()) fun u_646 => mp ()) fun x => mp (.nx x))))) (ctk (fun t647 => (mb (mp ((cond (decide (z604.2.1 = ((z604.1 + (2 : Int)) % (3 : Int)))) z604.2.1 z604.1) : Int)) fun u_648 =>
  (mb (mb (mb (mp box) fun x_651 => mb (mb (mp ((((t622.length : Nat) : Int) + (1 : Int)) : Int)) fun x_649 => mb (mp ()) fun z650 => mp (x_649, z650)) fun z652 => mp (x_651, z652)) fun z653 => (m__law_take z653.1 z653.2.1)) fun stop_654 =>
  (mb (mp (decide (z588.1 = (0 : Int)) || decide (stop_654 = ((t622.length : Nat) : Int)))) fun b => mi b
    (mb (mb (mb (mp world) fun x_657 => mb (mb (mp t622) fun x_655 => mb (mp ()) fun z656 => mp (x_655, z656)) fun z658 => mp (x_657, z658)) fun z659 => (m__law_written z659.1 z659.2.1)) fun u_660 =>
  (mb (mb (mp z604.2.1) fun (x_662 : Int) => mb (mp world) fun r663 => mb (mp ("value" : Str)) fun i664 => mb (mldD r663) fun xs => mb (mc (dicOk xs.length) ()) fun _ => mput r663 (.dic (putP xs (Ky.key i664) (PyT.enc x_662)))) fun u_661 =>
  (mb (mb (mp box) fun x_667 => mb (mb (mp world) fun x_665 => mb (mp ()) fun z666 => mp (x_665, z666)) fun z668 => mp (x_667, z668)) fun z669 => (m__law_rests z669.1 z669.2.1))))
    (mb (mb (mb (mp world) fun x_690 => mb (mb (mb (mb (mb (mb (mb (mb (mo (atI t622 stop_654)) fun x_672 => mp x_672.1) fun x_680 => mb (mb (mb (mb (mp box) fun x_675 => mb (mb (mp false) fun x_673 => mb (mp ()) fun z674 => mp (x_673, z674)) fun z676 => mp (x_675, z676)) fun z677 => (m__law_content z677.1 z677.2.1)) fun x_678 => mb (mp ()) fun z679 => mp (x_678, z679)) fun z681 => mp (x_680, z681)) fun z682 => mp (z682.1, z682.2.1)) fun x_683 => mb (mp ()) fun z684 => mp (x_683, z684)) fun z685 => mp ([z685.1] : (List (Int × Int)))) fun y687 => mc (lenOk ((cutL t622 none (some stop_654)).length + y687.length)) ((cutL t622 none (some stop_654)) ++ y687)) fun x_688 => mb (mp ()) fun z689 => mp (x_688, z689)) fun z691 => mp (x_690, z691)) fun z692 => (m__law_written z692.1 z692.2.1)) fun u_693 =>
  (mb (mb (mb (mp box) fun x_696 => mb (mb (mp world) fun x_694 => mb (mp ()) fun z695 => mp (x_694, z695)) fun z697 => mp (x_696, z697)) fun z698 => (m__law_losses z698.1 z698.2.1)) fun u_699 =>
  (mb (mb (mb (mp box) fun x_706 => mb (mb (mp world) fun x_704 => mb (mb (mp u_648) fun x_702 => mb (mb (mp (([z604.1, z604.2.1] : (List Int)) : (List Int))) fun x_700 => mb (mp ()) fun z701 => mp (x_700, z701)) fun z703 => mp (x_702, z703)) fun z705 => mp (x_704, z705)) fun z707 => mp (x_706, z707)) fun z708 => (m__law_opened z708.1 z708.2.1 z708.2.2.1 z708.2.2.2.1)) fun b714 => mi b714 (mb (mb (mp box) fun x_711 => mb (mb (mp world) fun x_709 => mb (mp ()) fun z710 => mp (x_709, z710)) fun z712 => mp (x_711, z712)) fun z713 => (m__law_rests z713.1 z713.2.1)) (mp false)))))))) fun _ => mbad)))
theorem chgR_ok {way byn low new : Int} (P : Pr s r n w view xs v w' view' xs' v') (hn : n ≤ 750000) (h : Vs xs) (hr : Rest xs v) (n0 : 0 ≤ new) (n1 : new < 3) {Q : Bool → Sto K → Prop} (q : ∀ s' view2 ys x, Pr s' r (n + 900) w view2 ys x w' view' xs' v' → Vs ys → Rest ys x → Q true s') : (chgR r w (way, byn, low, ()) (v, new, view, ()) (wz xs v new) s).st Q := by
  unfold chgR
  have h64 := h.2.1
  have wl := wz_len (xs := xs) (old := v) (new := new)
  have wr_ok : rprDok (wz xs v new) = true := shd_ps (l := 64) (by omega) (by decide) fun w hw => by
    have := wz_mem w hw
    omega
  simp only [st_mb, st_mp, st_mi, st_mo, st_mldD, st_mldL, st_mput, st_mnew, st_mc]
  refine passed_ok P.t.a.l ⟨by decide, ?_⟩
  refine st_forC (Inv := fun _ _ s' => Pr s' r n w view xs v w' view' xs' v') ?_ ?_ P
  · rintro x rest _ s2 P2
    have ask : ∀ {X : List (Int × Int) → Sto K → Prop}, (∀ s', Pr s' r n w view xs v w' view' xs' v' → X (wz xs v new) s') → ∀ t : Bool, (m_three_steps (K := K) ⟨t, xs⟩ new s2).st X := fun q t => steps_ok h hr n0 n1 fun b o hb => q _ (P2.off hb fun c hc => Sto.put_ne hc)
    simp only [st_mb, st_mp, st_mi, st_mo, st_mldD, st_mldL, st_mput, st_mnew, st_mc]
    refine ⟨fun _ => ask (fun s3 P3 => ?_) _, fun _ => ask (fun s3 P3 => ?_) _⟩
    all_goals
      simp only [st_mu, st_mb, st_mp, st_mi, st_mc]
      refine ⟨wr_ok, wr_ok, fun e => ?_, fun _ => ⟨decide_eq_true (by omega), P3⟩⟩
      simp at e
  · rintro _ s2 P2
    show (mb _ _ s2).st _
    simp only [st_mb, st_mp, st_mi, st_mo, st_mldD, st_mldL, st_mput, st_mnew, st_mc]
    refine take_p P2 (by omega) (by omega) (by omega) fun stop s3 c0 c1 P3 _ => ⟨fun _ => ?_, fun g => ?_⟩
    · refine written_ok P3 (fun y hy => (wz_mem y hy).2) fun s4 P4 => ?_
      refine ⟨_, P4.t.a.d, by rfl, _, P4.t.a.d, ?_⟩
      rw [put_vl]
      have h4 : Vs (wr xs (wz xs v new)) := vs_wr h fun y hy => by have := wz_mem y hy; omega
      have r4 := chg_full hr n0 n1
      refine rests_ok (P4.setV (x := new)) (by omega) h4 r4 fun s5 P5 => q s5 _ _ _ (P5.mono (by omega)) h4 r4
    · rw [Bool.or_eq_false_iff] at g
      have g2 := of_decide_eq_false g.2
      have c2 : stop < ((wz xs v new).length : Nat) := by omega
      have hlt : stop.toNat < (wz xs v new).length := by omega
      obtain ⟨z, e1, e2, e3⟩ := cut_wr (t := 0) c0 c2
      refine ⟨z, e1, ?_⟩
      refine content_ok P3 (by omega) fun t s4 t0 t1 P4 => ?_
      rw [e3, e2]
      refine ⟨decide_eq_true (by rw [List.length_take]; show min _ _ + 1 ≤ _; omega), ?_⟩
      refine written_ok P4 (fun y hy => ?_) fun s5 P5 => ?_
      · rcases List.mem_append.mp hy with hy | hy
        · exact (wz_mem y (List.mem_of_mem_take hy)).2
        · rw [List.mem_singleton.mp hy]
          exact (wz_mem ((wz xs v new)[stop.toNat]'hlt) (List.getElem_mem _)).2
      · have h5 : Vs (wr xs ((wz xs v new).take stop.toNat ++ [(((wz xs v new)[stop.toNat]'hlt).1, t)])) := vs_wr h fun y hy => by
          rcases List.mem_append.mp hy with hy | hy
          · have := wz_mem y (List.mem_of_mem_take hy)
            omega
          · rw [List.mem_singleton.mp hy]
            exact ⟨t0, t1⟩
        obtain ⟨w5, ⟨u0, u1⟩, p1, p2⟩ := chg_torn (t := t) hr n0 n1 hlt
        rw [← wr_torn] at w5
        refine losses_ok P5 (by omega) h5 w5 fun s6 view6 ys P6 h6 w6 => ?_
        have eu : (bif decide (new = (v + 2) % 3) then new else v) = uu v new := by
          unfold uu
          by_cases c : new = (v + 2) % 3
          · rw [decide_eq_true c, if_pos c]; rfl
          · rw [decide_eq_false c, if_neg c]; rfl
        rw [eu]
        refine opened_ok P6 (by omega) h6 u0 u1 w6 (by simpa using p1) (by simpa using p2) fun s7 view7 zs x P7 h7 r7 => ⟨fun _ => ?_, fun e => absurd e (by decide)⟩
        exact rests_ok P7 (by omega) h7 r7 fun s8 P8 => q s8 _ _ _ (P8.mono (by omega)) h7 r7
theorem change_ok (P : Pr s r n w view xs v w' view' xs' v') (hn : n ≤ 700000) (h : Vs xs) (hr : Rest xs v) {Q : Bool → Sto K → Prop} (q : ∀ s' view2 ys x, Pr s' r (n + 1000) w view2 ys x w' view' xs' v' → Vs ys → Rest ys x → Q true s') : (m__law_change r w s).st Q := by
  unfold m__law_change
  show ((mb _ fun z588 => mb _ fun z604 => mb _ fun writes619 => mb _ fun t620 => mb _ fun t622 => chgR r w z588 z604 t622) s).st Q
  simp only [st_mb, st_mp, st_mi, st_mo, st_mldD, st_mldL, st_mput, st_mnew, st_mc]
  refine take_p P (by omega) (by decide) (by decide) fun way s1 a0 a1 P1 _ => ?_
  refine take_p P1 (by omega) (by decide) (by decide) fun byn s2 b0 b1 P2 _ => ?_
  refine take_p P2 (by omega) (by decide) (by decide) fun low s3 c0 c1 P3 _ => ?_
  refine vl_ok P3.t.a ?_
  refine take_p P3 (by omega) (by decide) (by decide) fun new s4 n0 n1 P4 _ => ?_
  refine vw_ok P4.t.a (ld_ok P4.t.a ?_)
  rw [st_mu, st_mp]
  have h64 := h.2.1
  refine ⟨b62_of (by omega) (by omega), ?_⟩
  refine st_cmP (p := fun i => !decide (xs.getD i.toNat 0 = new)) (g := fun i => (i, new)) (by rw [rng_length]; omega) (fun i hi => ?_) (fun i _ _ => st_mp.mpr ⟨rfl, rfl⟩) ?_
  · have := mem_rng.mp hi
    simp only [st_mb, st_mp, st_mo, st_mldL]
    exact ⟨_, P4.t.a.l, _, at_enc (by omega) (by omega), rfl, trivial⟩
  rw [Int.toNat_natCast, show ((rng 0 xs.length).filter fun i => !decide (xs.getD i.toNat 0 = new)).map (fun i => (i, new)) = df xs new from rfl]
  have fin : (chgR r w (way, byn, low, ()) (v, new, view, ()) (wz xs v new) s4).st Q := chgR_ok P4 (by omega) h hr n0 n1 fun s5 view5 ys x P5 h5 r5 => q s5 view5 ys x (P5.mono (by omega)) h5 r5
  have v0 := hr.1
  unfold wz at fin
  refine ⟨fun a => ⟨fun b => ?_, fun b => ?_⟩, fun a => ⟨fun b => ?_, fun b => ?_⟩⟩
  · rw [if_pos (of_decide_eq_true b)] at fin; exact fin
  · rw [if_neg (of_decide_eq_false b), if_pos (of_decide_eq_true a)] at fin; exact fin
  · rw [if_pos (of_decide_eq_true b)] at fin; exact fin
  · rw [if_neg (of_decide_eq_false b), if_neg (of_decide_eq_false a)] at fin; exact fin
/-! the law -/
theorem new_box (T : Tw s w view xs v w' view' xs' v') {great : Int} {Q : Ref → Sto K → Prop} (q : ∀ r s', Pr s' r 0 w view xs v w' view' xs' v' → Q r s') : (m__law_box great s).st Q :=
  box_ok fun a s' ha B c => q _ s' ⟨B, T.off ha c⟩
/-- the first row is given up -/
theorem new_row (P : Pr s r n w view xs v w' view' xs' v') (hn : n ≤ 900000) {great : Bool} {Q : Ref → Sto K → Prop} (q : ∀ w2 view2 ys x s', Pr s' r (n + 2) w2 view2 ys x w' view' xs' v' → Vs ys → Rest ys x → Q w2 s') : (m__law_new_row r great s).st Q := by
  refine row_ok P.b hn fun a b ys x s' ha hb hab hv hr W B c => ?_
  have A := P.ap ha
  have Bp := P.ap hb
  have nb := P.t.b.nb P.b
  exact q ⟨a⟩ ⟨b⟩ ys x s' ⟨B, ⟨W, P.t.b.same (c _ A.w'.symm Bp.w'.symm nb.1) (c _ A.v'.symm Bp.v'.symm nb.2), A.w', Bp.v'⟩⟩ hv hr
/-- two rows and a box -/
def S2 (s : Sto K) (r : Ref) (n : Int) (t : List Ref) : Prop := ∃ w view xs v w' view' xs' v', t = [w, w'] ∧ Pr s r n w view xs v w' view' xs' v' ∧ (Vs xs ∧ Rest xs v) ∧ (Vs xs' ∧ Rest xs' v')
theorem S2.mono {t : List Ref} (h : S2 s r n t) (l : n ≤ m) : S2 s r m t := by
  obtain ⟨w, view, xs, v, w', view', xs', v', e, P, h1, h2⟩ := h
  exact ⟨w, view, xs, v, w', view', xs', v', e, P.mono l, h1, h2⟩
theorem repl_ok {t : List Ref} (h : S2 s r n t) (hn : n ≤ 900000) {k : Int} (k0 : 0 ≤ k) (k1 : k < 2) {great : Bool} {X : List Ref → Sto K → Prop} (q : ∀ t2 s', S2 s' r (n + 2) t2 → X t2 s') : (m__law_new_row r great s).st fun a s' => ∃ t2, Option.map (fun k => t.set k a) (ixN t.length k) = some t2 ∧ X t2 s' := by
  obtain ⟨w, view, xs, v, w', view', xs', v', rfl, P, h1, h2⟩ := h
  have hk : k = 0 ∨ k = 1 := by omega
  rcases hk with rfl | rfl
  · exact new_row P hn fun w2 view2 ys x s' P2 hv hr => ⟨[w2, w'], rfl, q _ _ ⟨_, _, _, _, _, _, _, _, rfl, P2, ⟨hv, hr⟩, h2⟩⟩
  · exact new_row P.swap hn fun w2 view2 ys x s' P2 hv hr => ⟨[w, w2], rfl, q _ _ ⟨_, _, _, _, _, _, _, _, rfl, P2.swap, h1, ⟨hv, hr⟩⟩⟩
theorem step_ok {t : List Ref} (h : S2 s r n t) (hn : n ≤ 600000) {k : Int} (k0 : 0 ≤ k) (k1 : k < 2) {Z1 Z2 Z3 : Sto K → Prop} (q : ∀ s', S2 s' r (n + 1005) t → Z2 s') : ∃ a, atI t k = some a ∧ (m__law_change r a s).st fun a s' => ((!a) = true → Z1 s') ∧ ((!a) = false → ∃ a, atI t (1 - k) = some a ∧ (m__law_rests r a s').st fun a s' => ((!a) = true → Z3 s') ∧ ((!a) = false → Z2 s')) := by
  obtain ⟨w, view, xs, v, w', view', xs', v', rfl, P, h1, h2⟩ := h
  have hk : k = 0 ∨ k = 1 := by omega
  rcases hk with rfl | rfl
  · refine ⟨w, rfl, change_ok P (by omega) h1.1 h1.2 fun s' view2 ys x P2 hv hr => ⟨fun e => absurd e (by decide), fun _ => ⟨w', rfl, ?_⟩⟩⟩
    exact rests_ok P2.swap (by omega) h2.1 h2.2 fun s'' P3 => ⟨fun e => absurd e (by decide), fun _ => q _ ⟨_, _, _, _, _, _, _, _, rfl, P3.swap.mono (by omega), ⟨hv, hr⟩, h2⟩⟩
  · refine ⟨w', rfl, change_ok P.swap (by omega) h2.1 h2.2 fun s' view2 ys x P2 hv hr => ⟨fun e => absurd e (by decide), fun _ => ⟨w, rfl, ?_⟩⟩⟩
    exact rests_ok P2.swap (by omega) h1.1 h1.2 fun s'' P3 => ⟨fun e => absurd e (by decide), fun _ => q _ ⟨_, _, _, _, _, _, _, _, rfl, P3.mono (by omega), h1, ⟨hv, hr⟩⟩⟩
/-- how many blocks the view of a row has -/
theorem len_ok {t : List Ref} (h : S2 s r n t) {k : Int} (k0 : 0 ≤ k) (k1 : k < 2) {Q : List Int → Sto K → Prop} (q : ∀ xs, Q xs s) : ∃ a, atI t k = some a ∧ ∃ xs, s.f a.a = some (Ob.dic xs) ∧ ∃ a, (getP xs (Ky.key ("view" : Str))).bind (PyT.dec (α := Ref)) = some a ∧ (mldT Int a s).st Q := by
  obtain ⟨w, view, xs, v, w', view', xs', v', rfl, P, h1, h2⟩ := h
  have hk : k = 0 ∨ k = 1 := by omega
  rcases hk with rfl | rfl
  · exact ⟨w, rfl, vw_ok P.t.a (ld_ok P.t.a (q _))⟩
  · exact ⟨w', rfl, vw_ok P.t.b (ld_ok P.t.b (q _))⟩
theorem law_ok {ns : List Int} (hl : ns.length ≤ 63) : (m_law ⟨ns⟩ (Sto.emp K)).sat fun b _ => b = true := by
  refine R.st.to ?_
  unfold m_law
  simp only [st_mb, st_mp, st_mi, st_mo, st_mldD, st_mldL, st_mput, st_mnew, st_mc]
  rw [st_mu]
  refine cell_ok (by decide) fun x0 => ?_
  refine box_ok fun a0 s0 _ B0 _ => ?_
  refine take_b B0 (by decide) (by decide) (by decide) fun g s1 _ _ B1 _ => ?_
  refine row_ok B1 (by omega) fun a1 b1 xs1 v1 s2 ha1 hb1 hab1 hv1 hr1 W1 B2 _ => ?_
  refine row_ok B2 (by omega) fun a2 b2 xs2 v2 s3 ha2 hb2 hab2 hv2 hr2 W2 B3 c3 => ?_
  have W1n := W1.nb B2
  have na : ∀ {c d : Addr} {o : Ob}, s2.f c = some o → s2.f d = none → c ≠ d := fun e1 e2 e => by rw [e, e2] at e1; cases e1
  have T0 : Tw s3 ⟨a1⟩ ⟨b1⟩ xs1 v1 ⟨a2⟩ ⟨b2⟩ xs2 v2 := ⟨W1.same (c3 _ (na W1.d ha2) (na W1.d hb2) W1n.1) (c3 _ (na W1.l ha2) (na W1.l hb2) W1n.2), W2, na W1.d ha2, na W1.l hb2⟩
  refine ⟨b62_of ?_ ?_, ?_⟩
  · split <;> split <;> omega
  · split <;> split <;> omega
  refine st_forC (Inv := fun rest t s' => (∀ x ∈ rest, 0 ≤ x) ∧ ∃ w view xs v w' view' xs' v', t = [w, w'] ∧ Tw s' w view xs v w' view' xs' v' ∧ (Vs xs ∧ Rest xs v) ∧ (Vs xs' ∧ Rest xs' v')) ?_ ?_ ⟨fun x hx => (mem_rng.mp hx).1, _, _, _, _, _, _, _, _, rfl, T0, ⟨hv1, hr1⟩, hv2, hr2⟩
  · rintro x rest t s4 ⟨hx, w, view, xs, v, w', view', xs', v', rfl, T, ⟨hv, hr⟩, hv', hr'⟩
    have hx0 := hx x (List.mem_cons_self ..)
    have hx2 : ∀ y ∈ rest, 0 ≤ y := fun y hy => hx y (List.mem_cons_of_mem _ hy)
    simp only [st_mb, st_mp, st_mi, st_mo, st_mldD, st_mldL, st_mput, st_mnew, st_mc]
    rw [st_mu]
    refine cell_ok (by omega) fun gr => ?_
    refine new_box T fun r s5 P5 => ?_
    refine take_p P5 (by decide) (by decide) (by decide) fun k s6 k0 k1 P6 _ => ?_
    refine take_p P6 (by decide) (by decide) (by decide) fun again s7 e0 e1 P7 _ => ?_
    have S : S2 s7 r 2 [w, w'] := ⟨_, _, _, _, _, _, _, _, rfl, P7, ⟨hv, hr⟩, hv', hr'⟩
    have back : ∀ {s' : Sto K} {t : List Ref} {n : Int}, S2 s' r n t → (∀ x ∈ rest, 0 ≤ x) ∧ ∃ w view xs v w' view' xs' v', t = [w, w'] ∧ Tw s' w view xs v w' view' xs' v' ∧ (Vs xs ∧ Rest xs v) ∧ (Vs xs' ∧ Rest xs' v') := fun h => by
      obtain ⟨w, view, xs, v, w', view', xs', v', e, P, h1, h2⟩ := h
      exact ⟨hx2, w, view, xs, v, w', view', xs', v', e, P.t, h1, h2⟩
    refine len_ok S k0 k1 fun zs => ⟨fun _ => ⟨fun _ => repl_ok S (by decide) k0 k1 fun t2 s8 S2 => ⟨fun _ => repl_ok S2 (by decide) (by decide) (by decide) fun t3 s9 S3 => step_ok S3 (by decide) k0 k1 fun s' S => back S, fun _ => step_ok S2 (by decide) k0 k1 fun s' S => back S⟩, fun _ => ?_⟩, fun _ => ⟨fun e => absurd e (by decide), fun _ => ?_⟩⟩
    · exact ⟨fun _ => repl_ok S (by decide) (by decide) (by decide) fun t3 s9 S3 => step_ok S3 (by decide) k0 k1 fun s' S => back S, fun _ => step_ok S (by decide) k0 k1 fun s' S => back S⟩
    · exact ⟨fun _ => repl_ok S (by decide) (by decide) (by decide) fun t3 s9 S3 => step_ok S3 (by decide) k0 k1 fun s' S => back S, fun _ => step_ok S (by decide) k0 k1 fun s' S => back S⟩
  · rintro t s4 _
    show (mp true s4).st _
    exact st_mp.mpr rfl
end
end L40

namespace L40
open PySem PySem.Spec PyProof.Rows L2 Mir
theorem facts {P : Program} {w : World} {K : PySem.W.Frag} {h : Heap} {mg : Str → Option Value} {f : Addr} (X : K.In h) (G : h.Ns mainGlobals mg) (hfa : mg ("law" : Str) = some (.ref f)) (c : He.SaysD fa fn K) :
    ∃ fd : FuncData, (∀ (s : Shared) (v : Value), BindsTo s fd ⟨[v], []⟩ [("script", v)]) ∧ ∀ base : Heap, K.In base → base.Ns mainGlobals mg → FnG P w K mg base CX0 10 f fd ["script"] (sp_law K) := by
  obtain ⟨fd_is_whole, F_is_whole⟩ := c.def_ 0 (d := dD "is_whole" 6) rfl
  have g_is_whole := He.glo_ok X G (c.fact 0 (f := .glo "is_whole") rfl)
  obtain ⟨fd_is_between, F_is_between⟩ := c.def_ 1 (d := dD "is_between" 7) rfl
  have g_is_between := He.glo_ok X G (c.fact 1 (f := .glo "is_between") rfl)
  obtain ⟨fd_is_list, F_is_list⟩ := c.def_ 2 (d := dD "is_list" 8) rfl
  have g_is_list := He.glo_ok X G (c.fact 2 (f := .glo "is_list") rfl)
  obtain ⟨fd_check_few, F_check_few⟩ := c.def_ 3 (d := dD "check_few" 12) rfl
  have g_check_few := He.glo_ok X G (c.fact 3 (f := .glo "check_few") rfl)
  obtain ⟨fd_following, F_following⟩ := c.def_ 4 (d := dD "following" 13) rfl
  have g_following := He.glo_ok X G (c.fact 4 (f := .glo "following") rfl)
  obtain ⟨fd_is_left_at, F_is_left_at⟩ := c.def_ 5 (d := dD "is_left_at" 14) rfl
  have g_is_left_at := He.glo_ok X G (c.fact 5 (f := .glo "is_left_at") rfl)
  obtain ⟨fd_left_by, F_left_by⟩ := c.def_ 6 (d := dD "left_by" 15) rfl
  have g_left_by := He.glo_ok X G (c.fact 6 (f := .glo "left_by") rfl)
  obtain ⟨fd_check_three, F_check_three⟩ := c.def_ 7 (d := dD "check_three" 16) rfl
  have g_check_three := He.glo_ok X G (c.fact 7 (f := .glo "check_three") rfl)
  obtain ⟨fd_check_left, F_check_left⟩ := c.def_ 8 (d := dD "check_left" 17) rfl
  have g_check_left := He.glo_ok X G (c.fact 8 (f := .glo "check_left") rfl)
  obtain ⟨fd_three_can_be_left, F_three_can_be_left⟩ := c.def_ 9 (d := dD "three_can_be_left" 18) rfl
  have g_three_can_be_left := He.glo_ok X G (c.fact 9 (f := .glo "three_can_be_left") rfl)
  obtain ⟨fd_told_of_two, F_told_of_two⟩ := c.def_ 10 (d := dD "told_of_two" 19) rfl
  have g_told_of_two := He.glo_ok X G (c.fact 10 (f := .glo "told_of_two") rfl)
  obtain ⟨fd_told_and_writes, F_told_and_writes⟩ := c.def_ 11 (d := dD "told_and_writes" 20) rfl
  have g_told_and_writes := He.glo_ok X G (c.fact 11 (f := .glo "told_and_writes") rfl)
  obtain ⟨fd_three_told, F_three_told⟩ := c.def_ 12 (d := dD "three_told" 21) rfl
  have g_three_told := He.glo_ok X G (c.fact 12 (f := .glo "three_told") rfl)
  obtain ⟨fd_three_mending, F_three_mending⟩ := c.def_ 13 (d := dD "three_mending" 22) rfl
  have g_three_mending := He.glo_ok X G (c.fact 13 (f := .glo "three_mending") rfl)
  obtain ⟨fd_three_steps, F_three_steps⟩ := c.def_ 14 (d := dD "three_steps" 23) rfl
  have g_three_steps := He.glo_ok X G (c.fact 14 (f := .glo "three_steps") rfl)
  obtain ⟨fd__law_cell, F__law_cell⟩ := c.def_ 15 (d := dD "_law_cell" 25) rfl
  have g__law_cell := He.glo_ok X G (c.fact 15 (f := .glo "_law_cell") rfl)
  obtain ⟨fd__law_box, F__law_box⟩ := c.def_ 16 (d := dD "_law_box" 26) rfl
  have g__law_box := He.glo_ok X G (c.fact 16 (f := .glo "_law_box") rfl)
  obtain ⟨fd__law_take, F__law_take⟩ := c.def_ 17 (d := dD "_law_take" 27) rfl
  have g__law_take := He.glo_ok X G (c.fact 17 (f := .glo "_law_take") rfl)
  obtain ⟨fd__law_form, F__law_form⟩ := c.def_ 18 (d := dD "_law_form" 28) rfl
  have g__law_form := He.glo_ok X G (c.fact 18 (f := .glo "_law_form") rfl)
  obtain ⟨fd__law_reading, F__law_reading⟩ := c.def_ 19 (d := dD "_law_reading" 29) rfl
  have g__law_reading := He.glo_ok X G (c.fact 19 (f := .glo "_law_reading") rfl)
  obtain ⟨fd__law_new_row, F__law_new_row⟩ := c.def_ 20 (d := dD "_law_new_row" 30) rfl
  have g__law_new_row := He.glo_ok X G (c.fact 20 (f := .glo "_law_new_row") rfl)
  obtain ⟨fd__law_passed, F__law_passed⟩ := c.def_ 21 (d := dD "_law_passed" 31) rfl
  have g__law_passed := He.glo_ok X G (c.fact 21 (f := .glo "_law_passed") rfl)
  obtain ⟨fd__law_told_right, F__law_told_right⟩ := c.def_ 22 (d := dD "_law_told_right" 32) rfl
  have g__law_told_right := He.glo_ok X G (c.fact 22 (f := .glo "_law_told_right") rfl)
  obtain ⟨fd__law_content, F__law_content⟩ := c.def_ 23 (d := dD "_law_content" 33) rfl
  have g__law_content := He.glo_ok X G (c.fact 23 (f := .glo "_law_content") rfl)
  obtain ⟨fd__law_losses, F__law_losses⟩ := c.def_ 24 (d := dD "_law_losses" 34) rfl
  have g__law_losses := He.glo_ok X G (c.fact 24 (f := .glo "_law_losses") rfl)
  obtain ⟨fd__law_written, F__law_written⟩ := c.def_ 25 (d := dD "_law_written" 35) rfl
  have g__law_written := He.glo_ok X G (c.fact 25 (f := .glo "_law_written") rfl)
  obtain ⟨fd__law_opened, F__law_opened⟩ := c.def_ 26 (d := dD "_law_opened" 36) rfl
  have g__law_opened := He.glo_ok X G (c.fact 26 (f := .glo "_law_opened") rfl)
  obtain ⟨fd__law_rests, F__law_rests⟩ := c.def_ 27 (d := dD "_law_rests" 37) rfl
  have g__law_rests := He.glo_ok X G (c.fact 27 (f := .glo "_law_rests") rfl)
  obtain ⟨fd__law_change, F__law_change⟩ := c.def_ 28 (d := dD "_law_change" 38) rfl
  have g__law_change := He.glo_ok X G (c.fact 28 (f := .glo "_law_change") rfl)
  obtain ⟨fd_law, F_law⟩ := c.def_ 29 (d := dD "law" 39) rfl
  have g_law := He.glo_ok X G (c.fact 29 (f := .glo "law") rfl)
  have b_bool := He.free_ok X G (c.fact 30 (f := .free "bool") rfl)
  have b_int := He.free_ok X G (c.fact 31 (f := .free "int") rfl)
  have b_isinstance := He.free_ok X G (c.fact 32 (f := .free "isinstance") rfl)
  have b_list := He.free_ok X G (c.fact 33 (f := .free "list") rfl)
  have b_tuple := He.free_ok X G (c.fact 34 (f := .free "tuple") rfl)
  have b_all := He.free_ok X G (c.fact 35 (f := .free "all") rfl)
  have b_len := He.free_ok X G (c.fact 36 (f := .free "len") rfl)
  have b_any := He.free_ok X G (c.fact 37 (f := .free "any") rfl)
  have b_range := He.free_ok X G (c.fact 38 (f := .free "range") rfl)
  have b_enumerate := He.free_ok X G (c.fact 39 (f := .free "enumerate") rfl)
  have b_sum := He.free_ok X G (c.fact 40 (f := .free "sum") rfl)
  have b_abs := He.free_ok X G (c.fact 41 (f := .free "abs") rfl)
  have b_repr := He.free_ok X G (c.fact 42 (f := .free "repr") rfl)
  have b_max := He.free_ok X G (c.fact 43 (f := .free "max") rfl)
  have b_min := He.free_ok X G (c.fact 44 (f := .free "min") rfl)
  have c_MOST_CONTENT := He.int_ok X G (c.fact 45 (f := .int "MOST_CONTENT" 996) rfl)
  have c_MOST_SEEN := He.int_ok X G (c.fact 46 (f := .int "MOST_SEEN" 64) rfl)
  have e := hfa.symm.trans g_law
  cases e
  have b := FunD.bindsA (ps := ["script"]) F_law fun _ _ _ _ _ _ us hl => match us, hl with | [_], _ => rfl
  refine ⟨fd_law, fun s v => b s [v] rfl, fun base _ _ => ?_⟩
  have C_is_whole := ok_is_whole (P := P) (w := w) (base := base) F_is_whole g_is_whole b_bool b_int b_isinstance
  have C_is_between := ok_is_between (P := P) (w := w) (base := base) F_is_between g_is_between C_is_whole
  have C_is_list := ok_is_list (P := P) (w := w) (base := base) F_is_list g_is_list b_isinstance b_list b_tuple
  have C_check_few := ok_check_few (P := P) (w := w) (base := base) F_check_few g_check_few b_all b_len c_MOST_CONTENT c_MOST_SEEN C_is_list C_is_between
  have C_following := ok_following (P := P) (w := w) (base := base) F_following g_following
  have C_is_left_at := ok_is_left_at (P := P) (w := w) (base := base) F_is_left_at g_is_left_at b_len C_following
  have C_left_by := ok_left_by (P := P) (w := w) (base := base) F_left_by g_left_by b_any b_len b_range C_is_left_at
  have C_check_three := ok_check_three (P := P) (w := w) (base := base) F_check_three g_check_three b_len C_check_few
  have C_check_left := ok_check_left (P := P) (w := w) (base := base) F_check_left g_check_left C_check_three C_left_by
  have C_three_can_be_left := ok_three_can_be_left (P := P) (w := w) (base := base) F_three_can_be_left g_three_can_be_left C_check_three C_left_by
  have D_three_can_be_left__view := okK_three_can_be_left__view (P := P) (w := w) (base := base) F_three_can_be_left g_three_can_be_left C_check_three C_left_by
  have C_told_of_two := ok_told_of_two (P := P) (w := w) (base := base) F_told_of_two g_told_of_two C_following
  have C_told_and_writes := ok_told_and_writes (P := P) (w := w) (base := base) F_told_and_writes g_told_and_writes b_enumerate b_len C_told_of_two C_following C_left_by
  have C_three_told := ok_three_told (P := P) (w := w) (base := base) F_three_told g_three_told C_check_left C_told_and_writes
  have C_three_mending := ok_three_mending (P := P) (w := w) (base := base) F_three_mending g_three_mending C_check_left C_told_and_writes
  have D_three_mending__view := okK_three_mending__view (P := P) (w := w) (base := base) F_three_mending g_three_mending C_check_left C_told_and_writes
  have C_three_steps := ok_three_steps (P := P) (w := w) (base := base) F_three_steps g_three_steps b_enumerate C_check_left C_told_and_writes C_is_between C_following
  have D_three_steps__new_view := okK_three_steps__new_view (P := P) (w := w) (base := base) F_three_steps g_three_steps b_enumerate C_check_left C_told_and_writes C_is_between C_following
  have C__law_cell := ok__law_cell (P := P) (w := w) (base := base) F__law_cell g__law_cell b_int b_len b_sum
  have C__law_box := ok__law_box (P := P) (w := w) (base := base) F__law_box g__law_box b_abs b_int
  have C__law_take := ok__law_take (P := P) (w := w) (base := base) F__law_take g__law_take b_int
  have C__law_form := ok__law_form (P := P) (w := w) (base := base) F__law_form g__law_form b_int b_len
  have C__law_reading := ok__law_reading (P := P) (w := w) (base := base) F__law_reading g__law_reading b_int b_len b_range C__law_form
  have C__law_new_row := ok__law_new_row (P := P) (w := w) (base := base) F__law_new_row g__law_new_row C__law_take
  have C__law_passed := ok__law_passed (P := P) (w := w) (base := base) F__law_passed g__law_passed b_list b_tuple
  have C__law_told_right := ok__law_told_right (P := P) (w := w) (base := base) F__law_told_right g__law_told_right b_range b_repr C__law_take C__law_reading C__law_form C__law_passed C_three_mending D_three_mending__view D_three_can_be_left__view C_three_told
  have C__law_content := ok__law_content (P := P) (w := w) (base := base) F__law_content g__law_content C__law_take
  have C__law_losses := ok__law_losses (P := P) (w := w) (base := base) F__law_losses g__law_losses b_len b_range C__law_take
  have C__law_written := ok__law_written (P := P) (w := w) (base := base) F__law_written g__law_written
  have C__law_opened := ok__law_opened (P := P) (w := w) (base := base) F__law_opened g__law_opened b_len b_range C__law_take C__law_told_right C__law_reading C__law_content C__law_written C__law_losses
  have C__law_rests := ok__law_rests (P := P) (w := w) (base := base) F__law_rests g__law_rests b_len b_list b_range b_repr b_tuple C__law_take C_three_told C_three_mending C_three_steps
  have C__law_change := ok__law_change (P := P) (w := w) (base := base) F__law_change g__law_change b_int b_len b_range b_repr C__law_take C__law_passed C_three_steps D_three_steps__new_view C__law_written C__law_rests C__law_content C__law_losses C__law_opened
  exact fo_law F_law b_len b_max b_min b_range C__law_box C__law_cell C__law_take C__law_new_row C__law_change C__law_rests
theorem ov_emp (H : Hp) : ov emp H = H := rfl
theorem sp_law_ok {K : PySem.W.Frag} (H : Hp) (a : Addr) (ns : List Int) (hl : ns.length ≤ 63) (hS : SqL K H a (ns.map V.int)) : sp_law K [.ref a] H (fun v _ => v = .bl true) fun _ _ _ => False :=
  ⟨⟨ns⟩, Sto.emp K, H, emp, emp, rfl, fun _ => .inl rfl, ⟨emp, fun _ => rfl, fun _ => .inl rfl, .im ⟨a, rfl, hS⟩ .nil⟩, R.sat_imp (law_ok hl) fun b s' hb v H' I' N' _ _ hr => by
    have h : v = V.bl b := hr.2.2
    rw [h, hb]⟩
end L40
open PySem PySem.W PySem.Calls PyProof.Rows
theorem PySem.Challenge.cw_sparesum_k40_whole_three_values_kept_holds : PySem.Challenge.rw_sparesum_k40_whole_three_values_kept.Holds := by
  w_on; o_law
  refine HandSHeadRun.head_any (r := OpenLaw.row PySem.Challenge.rw_sparesum_k40_whole_three_values_kept) (q := view (OpenLaw.row PySem.Challenge.rw_sparesum_k40_whole_three_values_kept).prog [39]) (H := L40.hk) (ob := L40.ob) (M := 20000) (loose := L40.names) (d := HandSHeadRun.topDef (OpenLaw.row PySem.Challenge.rw_sparesum_k40_whole_three_values_kept).prog 39) (kwd := []) L40.ob_eq
    (by kernel_rfl) (fun s => by kernel_rfl) L40.run (by kernel_rfl) (by kernel_rfl) (by kernel_rfl) (by rfl) (by first | assumption | decide +kernel) (by decide +kernel) ⟨rfl, rfl, rfl, rfl, rfl, by decide +kernel⟩ ?hw ?hc
  case hw => w_witness2
  case hc =>
    refine Mir.walk_G (l := PySem.Challenge.rw_sparesum_k40_whole_three_values_kept) (n := 63) (k := 10) (x := "script") (CX := L2.CX0) rfl (by decide) (by kernel_rfl) ⟨rfl, by decide, by decide⟩ ?F (fun _ _ _ _ z => z)
    intro w mg fa h Y G hmg0
    obtain ⟨K, KX, c⟩ := Y
    have hmg : mg ("law" : PySem.Str) = some (.ref fa) := by
      have e : (HandSHeadRun.topDef (OpenLaw.row PySem.Challenge.rw_sparesum_k40_whole_three_values_kept).prog 39).name = ("law" : PySem.Str) := by kernel_rfl
      rw [← e]
      exact hmg0
    obtain ⟨fd, hb, hF⟩ := L40.facts (P := (PySem.Challenge.rw_sparesum_k40_whole_three_values_kept).prog) (w := w) KX G hmg c
    exact ⟨K, fd, L40.sp_law K, KX, hb, fun H a ns hl _ hS => L40.sp_law_ok H a ns hl hS, hF⟩
