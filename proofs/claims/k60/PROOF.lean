import PyProof.Rows.All
import Wide.All
import OpenK.AllK
import Wide.FinOn
import KE.KStateDown
import HandS.ForMost
import HandS.Walk
import HandS.Conv
import HandS.Wide
import HandS.IsInst
import HandS.Style
import HandS.SortInts
import HandS.Rev
import HandS.Base
import HandS.Call
import HandS.Ends
import HandS.More
import HandS.Words
import HandS.WordsExc
import HandS.Defaults
import HandS.Head0
import HandS.Head1
import HandS.Head2
import HandS.HeadEnd
import HandS.HeadHook1
import HandS.HeadHook2
import PyProof.ReprRoads
import HandS.TryOnly
import HandS.Flt
import HandS.Zip
import HandS.TupAny
import HandS.TupMul
import HandS.TupLen
import HandS.Star
import HandS.Iter
import HandS.Dict
import HandS.Flow
import HandS.ListItems
import HandS.DictTup
import HandS.SortRule
import HandS.RaiseMore
import PySem.Challenge.RW_sparesum_k60_whole_mending_again_and_aga
set_option Elab.async false
set_option linter.all false
set_option maxRecDepth 100000
set_option maxHeartbeats 400000
namespace L60
open PySem PySem.Spec PyProof.Rows L2
abbrev PW := PySem.Challenge.pw_sparesum_k60_whole_mending_again_and_aga
def top (i : Nat) : Stmt := PW.main.body.getD i (.Pass ⟨0, 0, 0, 0⟩)

def dD (x : Str) (i : Nat) : He.DefD := ⟨(x, none), x, x, defArgs (top i), defBody (top i), defScope (top i), [], []⟩
abbrev RWL := PySem.Challenge.rw_sparesum_k60_whole_mending_again_and_aga
def fn : List He.DefD := [dD "is_whole" 15, dD "is_between" 16, dD "is_list" 17, dD "is_tuple_of" 18, dD "is_rising" 19, dD "is_prime" 22, dD "check_prime" 23, dD "prime_below" 24, dD "power_of" 25, dD "inverse_of" 26, dD "value_at" 27, dD "data_through" 28, dD "number_from" 29, dD "figures" 30, dD "word_of" 34, dD "data_of" 35, dD "choose" 39, dD "spread" 40, dD "telling" 41, dD "check_shape" 42, dD "head_code" 44, dD "are_records" 46, dD "is_lot" 47, dD "check_lot" 48, dD "lots_next" 49, dD "lot_from" 50, dD "number_of_lot" 51, dD "lot_number" 52, dD "word_of_lot" 53, dD "head_word" 54, dD "are_heads" 55, dD "lot_told_by" 56, dD "is_view" 58, dD "check_view" 59, dD "check_long_view" 60, dD "told_by" 61, dD "told" 62, dD "can_be_left" 63, dD "mending_by" 64, dD "mending" 65, dD "_law_cell" 67, dD "_law_box" 68, dD "_law_take" 69, dD "_law_power" 70, dD "_law_choose" 71, dD "_law_lot" 72, dD "_law_sizes" 73, dD "_law_value" 74, dD "_law_word" 75, dD "_law_drawn" 76, dD "_law_rule" 77, dD "_law_writes" 78, dD "_law_left_view" 79, dD "_law_without" 80, dD "_law_asked" 81, dD "_law_parts_right" 82, dD "_law_right" 83, dD "law" 84, ⟨("Code", some "__init__"), "__init__", "Code.__init__", defArgs (inClass (top 33) 0), defBody (inClass (top 33) 0), defScope (inClass (top 33) 0), [], []⟩, ⟨("Array", some "__init__"), "__init__", "Array.__init__", defArgs (inClass (top 43) 0), defBody (inClass (top 43) 0), defScope (inClass (top 43) 0), [], []⟩]
def fa : List He.Fa := [.glo "is_whole", .glo "is_between", .glo "is_list", .glo "is_tuple_of", .glo "is_rising", .glo "is_prime", .glo "check_prime", .glo "prime_below", .glo "power_of", .glo "inverse_of", .glo "value_at", .glo "data_through", .glo "number_from", .glo "figures", .glo "word_of", .glo "data_of", .glo "choose", .glo "spread", .glo "telling", .glo "check_shape", .glo "head_code", .glo "are_records", .glo "is_lot", .glo "check_lot", .glo "lots_next", .glo "lot_from", .glo "number_of_lot", .glo "lot_number", .glo "word_of_lot", .glo "head_word", .glo "are_heads", .glo "lot_told_by", .glo "is_view", .glo "check_view", .glo "check_long_view", .glo "told_by", .glo "told", .glo "can_be_left", .glo "mending_by", .glo "mending", .glo "_law_cell", .glo "_law_box", .glo "_law_take", .glo "_law_power", .glo "_law_choose", .glo "_law_lot", .glo "_law_sizes", .glo "_law_value", .glo "_law_word", .glo "_law_drawn", .glo "_law_rule", .glo "_law_writes", .glo "_law_left_view", .glo "_law_without", .glo "_law_asked", .glo "_law_parts_right", .glo "_law_right", .glo "law", .free "bool", .free "int", .free "isinstance", .free "list", .free "tuple", .free "len", .free "all", .free "range", .free "min", .free "reversed", .free "zip", .free "any", .free "sum", .free "abs", .free "dict", .free "sorted", .free "max", .int "MOST_PRIME" 997, .int "MOST_DISKS" 12, .int "MOST_RECORDS" 24, .int "MOST_SYMBOLS" 64, .glo "Code", .cls "Code", .mkr "Code", .noat "Code" "prime", .noat "Code" "length", .noat "Code" "symbols", .glo "Array", .cls "Array", .mkr "Array", .noat "Array" "disks", .noat "Array" "lost", .noat "Array" "records", .noat "Array" "changes", .noat "Array" "contents", .noat "Array" "need", .noat "Array" "lots", .noat "Array" "symbols", .noat "Array" "prime", .noat "Array" "heads"]
def names : List Str := "SumError" :: "InvalidPrime" :: "InvalidLength" :: "InvalidSymbols" :: "InvalidDisks" :: "InvalidLost" :: "InvalidRecords" :: "InvalidChanges" :: "InvalidContents" :: "InvalidLot" :: "InvalidView" :: "TooFew" :: "NoHeads" :: "is_whole" :: "is_between" :: "is_list" :: "is_tuple_of" :: "is_rising" :: "MOST_PRIME" :: "is_prime" :: "check_prime" :: "prime_below" :: "power_of" :: "inverse_of" :: "value_at" :: "data_through" :: "number_from" :: "figures" :: "MOST_SYMBOLS" :: "Code" :: "word_of" :: "data_of" :: "MOST_DISKS" :: "MOST_RECORDS" :: "choose" :: "spread" :: "telling" :: "check_shape" :: "Array" :: "head_code" :: "are_records" :: "is_lot" :: "check_lot" :: "lots_next" :: "lot_from" :: "number_of_lot" :: "lot_number" :: "word_of_lot" :: "head_word" :: "are_heads" :: "lot_told_by" :: "is_view" :: "check_view" :: "check_long_view" :: "told_by" :: "told" :: "can_be_left" :: "mending_by" :: "mending" :: "_law_cell" :: "_law_box" :: "_law_take" :: "_law_power" :: "_law_choose" :: "_law_lot" :: "_law_sizes" :: "_law_value" :: "_law_word" :: "_law_drawn" :: "_law_rule" :: "_law_writes" :: "_law_left_view" :: "_law_without" :: "_law_asked" :: "_law_parts_right" :: "_law_right" :: []
abbrev RoW : PySem.W.OpenRow := PySem.W.OpenLaw.row RWL
abbrev hk : PySem.W.Hook := He.hookD 4 fa fn
def ob (s : PySem.W.SharedT) : He.AlD := He.obsDG 4 fa fn (HandSHeadRun.getT s)
theorem ob_eq (s : PySem.W.SharedT) : ob s = hk.obs s.abs := He.obsDG_eq (HandSHeadRun.getT_eq s)
set_option maxHeartbeats 0 in
theorem run (w : World) : HandSHeadRun.RunEq RoW (PySem.W.view RoW.prog [84]) hk ob 20000 names w := by
  intro os
  kernel_rfl

end L60
/-! Mir1: the heap in two parts, persistent and owned; slots; the monad of mirrors -/
namespace Mir
open PySem L2

/-! ### heaps -/
def Ex (H H' : Hp) : Prop := ∀ a o, H a = some o → H' a = some o
theorem Ex.refl (H : Hp) : Ex H H := fun _ _ h => h
theorem Ex.trans {H H1 H2 : Hp} (a : Ex H H1) (b : Ex H1 H2) : Ex H H2 := fun x o h => b x o (a x o h)
def ov (M I : Hp) : Hp := fun a => match M a with
  | some o => some o
  | none => I a
def Dis (M I : Hp) : Prop := ∀ a, M a = none ∨ I a = none
def emp : Hp := fun _ => none
def sing (a : Addr) (o : HO) : Hp := upd emp a o
theorem ov_l {M I : Hp} {a : Addr} {o : HO} (h : M a = some o) : ov M I a = some o := by
  unfold ov; rw [h]
theorem ov_r {M I : Hp} {a : Addr} (h : M a = none) : ov M I a = I a := by
  unfold ov; rw [h]
theorem ov_none {M I : Hp} {a : Addr} (h : ov M I a = none) : M a = none ∧ I a = none := by
  cases e : M a with
  | none => rw [ov_r e] at h; exact ⟨rfl, h⟩
  | some o => rw [ov_l e] at h; cases h
theorem ov_none' {M I : Hp} {a : Addr} (h1 : M a = none) (h2 : I a = none) : ov M I a = none := by rw [ov_r h1, h2]
theorem Dis.symm {M I : Hp} (d : Dis M I) : Dis I M := fun a => (d a).symm
theorem Dis.some_l {M I : Hp} {a : Addr} {o : HO} (d : Dis M I) (h : M a = some o) : I a = none := by
  rcases d a with q | q
  · rw [q] at h; cases h
  · exact q
theorem Dis.some_r {M I : Hp} {a : Addr} {o : HO} (d : Dis M I) (h : I a = some o) : M a = none := d.symm.some_l h
theorem ex_ov {M I : Hp} (d : Dis M I) : Ex I (ov M I) := fun a o h => by rw [ov_r (d.some_r h)]; exact h
theorem ex_ovl {M I : Hp} : Ex M (ov M I) := fun a o h => ov_l h
theorem ov_comm {M I : Hp} (d : Dis M I) : ov M I = ov I M := by
  funext a
  cases e : M a with
  | some o => rw [ov_l e, ov_r (d.some_l e), e]
  | none =>
    rw [ov_r e]
    cases e2 : I a with
    | some o => rw [ov_l e2]
    | none => rw [ov_r e2, e]
theorem ov_assoc {A B C : Hp} : ov A (ov B C) = ov (ov A B) C := by
  funext a
  unfold ov
  cases A a <;> rfl
theorem dis_ov_l {A B C : Hp} (h : Dis (ov A B) C) : Dis A C ∧ Dis B C := by
  refine ⟨fun a => ?_, fun a => ?_⟩
  · rcases h a with q | q
    · exact .inl (ov_none q).1
    · exact .inr q
  · rcases h a with q | q
    · exact .inl (ov_none q).2
    · exact .inr q
theorem dis_ov {A B C : Hp} (h1 : Dis A C) (h2 : Dis B C) : Dis (ov A B) C := fun a => by
  rcases h1 a with q | q
  · rcases h2 a with r | r
    · exact .inl (ov_none' q r)
    · exact .inr r
  · exact .inr q
theorem dis_ov_r {A B C : Hp} (h1 : Dis A B) (h2 : Dis A C) : Dis A (ov B C) := (dis_ov h1.symm h2.symm).symm
theorem dis_r_ov {A B C : Hp} (h : Dis A (ov B C)) : Dis A B ∧ Dis A C := ⟨(dis_ov_l h.symm).1.symm, (dis_ov_l h.symm).2.symm⟩
theorem Ex.new {H : Hp} {p : Addr} {o : HO} (h : H p = none) : Ex H (upd H p o) := fun a u e => by
  rw [upd_ne (ne_of_none e h)]; exact e
theorem ov_upd {M I : Hp} {p : Addr} {o : HO} (h : M p = none) : upd (ov M I) p o = ov M (upd I p o) := by
  funext a
  by_cases e : a = p
  · subst e; rw [upd_same, ov_r h, upd_same]
  · rw [upd_ne e]
    cases q : M a with
    | some o => rw [ov_l q, ov_l q]
    | none => rw [ov_r q, ov_r q, upd_ne e]
theorem dis_upd {M I : Hp} {p : Addr} {o : HO} (d : Dis M I) (h : M p = none) : Dis M (upd I p o) := fun a => by
  by_cases e : a = p
  · subst e; exact .inl h
  · rw [upd_ne e]; exact d a
theorem sing_same {a : Addr} {o : HO} : sing a o a = some o := upd_same
theorem sing_ne {a b : Addr} {o : HO} (h : b ≠ a) : sing a o b = none := upd_ne h
theorem upd_sing {M I : Hp} {p : Addr} {o : HO} : upd (ov M I) p o = ov (sing p o) (ov M I) := by
  funext a
  by_cases e : a = p
  · subst e; rw [upd_same, ov_l sing_same]
  · rw [upd_ne e, ov_r (sing_ne e)]
theorem ov_sing {I : Hp} {p : Addr} {o : HO} : ov (sing p o) I = upd I p o := by
  funext a
  by_cases e : a = p
  · subst e; rw [upd_same, ov_l sing_same]
  · rw [upd_ne e, ov_r (sing_ne e)]
theorem dis_sing {I : Hp} {p : Addr} {o : HO} (h : I p = none) : Dis (sing p o) I := fun a => by
  by_cases e : a = p
  · subst e; exact .inr h
  · exact .inl (sing_ne e)
/-- an owned object changes -/
theorem upd_own {p : Addr} {o o' : HO} {M I : Hp} : upd (ov (ov (sing p o) M) I) p o' = ov (ov (sing p o') M) I := by
  funext a
  by_cases e : a = p
  · subst e; rw [upd_same]; exact (ov_l (ov_l sing_same)).symm
  · rw [upd_ne e]
    unfold ov
    rw [sing_ne e, sing_ne e]

/-! ### what is known of values, of owned parts -/
structure PV where
  r : Hp → V → Prop
  up : ∀ {H H' : Hp} {v : V}, Ex H H' → r H v → r H' v
structure OP where
  r : Hp → Addr → Hp → Prop
  up : ∀ {H H' : Hp} {a : Addr} {M : Hp}, Ex H H' → r H a M → r H' a M
/-- a Lean type as Python values -/
class Rp (α : Type) where
  r : PySem.W.Frag → α → Hp → V → Prop
  up : ∀ {K : PySem.W.Frag} {x : α} {H H' : Hp} {v : V}, Ex H H' → r K x H v → r K x H' v
/-- values that no heap is asked for -/
class Sc (α : Type) [Rp α] where
  s : α → V
  eq : ∀ {K : PySem.W.Frag} {x : α} {H : Hp} {v : V}, Rp.r K x H v ↔ v = s x
def pv (K : PySem.W.Frag) {α : Type} [Rp α] (x : α) : PV := ⟨Rp.r K x, Rp.up⟩
instance rpInt : Rp Int := ⟨fun _ x _ v => v = V.int x, fun _ h => h⟩
instance scInt : Sc Int := ⟨V.int, Iff.rfl⟩
instance rpBool : Rp Bool := ⟨fun _ x _ v => v = V.bl x, fun _ h => h⟩
instance scBool : Sc Bool := ⟨V.bl, Iff.rfl⟩
instance rpUnit : Rp Unit := ⟨fun _ _ _ v => v = V.non, fun _ h => h⟩
instance scUnit : Sc Unit := ⟨fun _ => V.non, Iff.rfl⟩
instance rpStr : Rp Str := ⟨fun _ x _ v => v = V.str x, fun _ h => h⟩
instance scStr : Sc Str := ⟨V.str, Iff.rfl⟩
inductive All2 {α β : Type} (F : α → β → Prop) : List α → List β → Prop where
  | nil : All2 F [] []
  | cons {a : α} {b : β} {as : List α} {bs : List β} : F a b → All2 F as bs → All2 F (a :: as) (b :: bs)
section
variable {α β : Type} {F G : α → β → Prop}
theorem All2.imp (f : ∀ a b, F a b → G a b) : ∀ {as : List α} {bs : List β}, All2 F as bs → All2 G as bs
  | _, _, .nil => .nil
  | _, _, .cons h t => .cons (f _ _ h) (All2.imp f t)
theorem All2.length : ∀ {as : List α} {bs : List β}, All2 F as bs → as.length = bs.length
  | _, _, .nil => rfl
  | _, _, .cons _ t => congrArg Nat.succ (All2.length t)
theorem All2.get : ∀ {as : List α} {bs : List β}, All2 F as bs → ∀ {i : Nat} {a : α}, as[i]? = some a → ∃ b, bs[i]? = some b ∧ F a b
  | _, _, .nil, i, a, h => by simp at h
  | _, _, .cons h t, 0, a, e => by
    cases (Option.some.inj e)
    exact ⟨_, rfl, h⟩
  | _, _, .cons h t, i + 1, a, e => by
    obtain ⟨b, h1, h2⟩ := All2.get t (i := i) (by simpa using e)
    exact ⟨b, by simpa using h1, h2⟩
theorem All2.get' : ∀ {as : List α} {bs : List β}, All2 F as bs → ∀ {i : Nat} {b : β}, bs[i]? = some b → ∃ a, as[i]? = some a ∧ F a b
  | _, _, .nil, i, a, h => by simp at h
  | _, _, .cons h t, 0, a, e => by
    cases (Option.some.inj e)
    exact ⟨_, rfl, h⟩
  | _, _, .cons h t, i + 1, a, e => by
    obtain ⟨b, h1, h2⟩ := All2.get' t (i := i) (by simpa using e)
    exact ⟨b, by simpa using h1, h2⟩
theorem All2.append : ∀ {as cs : List α} {bs ds : List β}, All2 F as bs → All2 F cs ds → All2 F (as ++ cs) (bs ++ ds)
  | _, _, _, _, .nil, s => s
  | _, _, _, _, .cons h t, s => .cons h (All2.append t s)
theorem All2.set {a : α} {b : β} (h : F a b) : ∀ {as : List α} {bs : List β} (i : Nat), All2 F as bs → All2 F (as.set i a) (bs.set i b)
  | _, _, _, .nil => .nil
  | _, _, 0, .cons _ t => .cons h t
  | _, _, i + 1, .cons q t => .cons q (All2.set h i t)
theorem All2.take : ∀ {as : List α} {bs : List β} (n : Nat), All2 F as bs → All2 F (as.take n) (bs.take n)
  | _, _, 0, _ => .nil
  | _, _, _ + 1, .nil => .nil
  | _, _, n + 1, .cons h t => .cons h (All2.take n t)
theorem All2.drop : ∀ {as : List α} {bs : List β} (n : Nat), All2 F as bs → All2 F (as.drop n) (bs.drop n)
  | _, _, 0, s => s
  | _, _, _ + 1, .nil => .nil
  | _, _, n + 1, .cons _ t => All2.drop n t
theorem All2.reverse : ∀ {as : List α} {bs : List β}, All2 F as bs → All2 F as.reverse bs.reverse
  | _, _, .nil => .nil
  | _, _, .cons h t => by
    rw [List.reverse_cons, List.reverse_cons]
    exact (All2.reverse t).append (.cons h .nil)
theorem All2.eraseIdx : ∀ {as : List α} {bs : List β} (i : Nat), All2 F as bs → All2 F (as.eraseIdx i) (bs.eraseIdx i)
  | _, _, _, .nil => .nil
  | _, _, 0, .cons _ t => t
  | _, _, i + 1, .cons q t => .cons q (All2.eraseIdx i t)
theorem All2.dropLast {as : List α} {bs : List β} (h : All2 F as bs) : All2 F as.dropLast bs.dropLast := by
  rw [List.dropLast_eq_take, List.dropLast_eq_take, ← h.length]
  exact h.take _
theorem All2.replicate {a : α} {b : β} (h : F a b) : ∀ n : Nat, All2 F (List.replicate n a) (List.replicate n b)
  | 0 => .nil
  | n + 1 => .cons h (All2.replicate h n)
theorem All2.map_r {g : α → β} (h : ∀ a, F a (g a)) : ∀ as : List α, All2 F as (as.map g)
  | [] => .nil
  | a :: as => .cons (h a) (All2.map_r h as)
theorem All2.eq_map {g : α → β} (h : ∀ a b, F a b → b = g a) : ∀ {as : List α} {bs : List β}, All2 F as bs → bs = as.map g
  | _, _, .nil => rfl
  | _, _, .cons q t => by rw [h _ _ q, All2.eq_map h t]; rfl
end
theorem rd_up {H H' : Hp} {a : Addr} {u : HO} (e : Ex H H') (h : Rd H a u) : Rd H' a u := by
  rcases h with h | ⟨o, h⟩
  · exact .inl (e a _ h)
  · exact .inr ⟨o, e a _ h⟩
theorem sql_up {K : PySem.W.Frag} {H H' : Hp} {a : Addr} {xs : List V} (e : Ex H H') (h : SqL K H a xs) : SqL K H' a xs := by
  rcases h with h | h
  · exact .inl (rd_up e h)
  · exact .inr h
theorem sqt_up {K : PySem.W.Frag} {H H' : Hp} {a : Addr} {xs : List V} (e : Ex H H') (h : SqT K H a xs) : SqT K H' a xs := by
  rcases h with h | h
  · exact .inl (rd_up e h)
  · exact .inr h
/-- a list of them -/
abbrev Rs (K : PySem.W.Frag) {α : Type} [Rp α] (xs : List α) (H : Hp) (vs : List V) : Prop := All2 (fun x v => Rp.r K x H v) xs vs
theorem rs_up {K : PySem.W.Frag} {α : Type} [Rp α] {xs : List α} {H H' : Hp} {vs : List V} (e : Ex H H') (h : Rs K xs H vs) : Rs K xs H' vs := h.imp fun _ _ q => Rp.up e q
theorem rs_sc {K : PySem.W.Frag} {α : Type} [Rp α] [Sc α] {xs : List α} {H : Hp} {vs : List V} (h : Rs K xs H vs) : vs = xs.map Sc.s := h.eq_map fun _ _ q => Sc.eq.mp q
theorem rs_int {K : PySem.W.Frag} {xs : List Int} {H : Hp} {vs : List V} (h : Rs K xs H vs) : vs = xs.map V.int := rs_sc h
theorem rs_of_int {K : PySem.W.Frag} {xs : List Int} {H : Hp} : Rs K xs H (xs.map V.int) := All2.map_r (F := fun x v => v = V.int x) (g := V.int) (fun _ => rfl) xs
instance rpList {α : Type} [Rp α] : Rp (List α) := ⟨fun K xs H v => ∃ a vs, v = V.ref a ∧ H a = some (.lst vs) ∧ Rs K xs H vs, fun e ⟨a, vs, h1, h2, h3⟩ => ⟨a, vs, h1, e _ _ h2, rs_up e h3⟩⟩
/-- the script -/
structure Scr where
  l : List Int
instance rpScr : Rp Scr := ⟨fun K x H v => ∃ a, v = V.ref a ∧ SqL K H a (x.l.map V.int), fun e ⟨a, h1, h2⟩ => ⟨a, h1, sql_up e h2⟩⟩
/-- a tuple of items of one type -/
structure Tu (α : Type) where
  l : List α
  deriving DecidableEq
instance rpTu {α : Type} [Rp α] : Rp (Tu α) := ⟨fun K xs H v => ∃ a vs, v = V.ref a ∧ SqT K H a vs ∧ Rs K xs.l H vs, fun e ⟨a, vs, h1, h2, h3⟩ => ⟨a, vs, h1, sqt_up e h2, rs_up e h3⟩⟩
/-- tuples of two to five parts -/
instance rpProd {α β : Type} [Rp α] [Rp β] : Rp (α × β) := ⟨fun K x H v => ∃ a v1 v2, v = V.ref a ∧ SqT K H a [v1, v2] ∧ Rp.r K x.1 H v1 ∧ Rp.r K x.2 H v2, fun e ⟨a, v1, v2, h1, h2, h3, h4⟩ => ⟨a, v1, v2, h1, sqt_up e h2, Rp.up e h3, Rp.up e h4⟩⟩
structure T3 (α β γ : Type) where
  a : α
  b : β
  c : γ
  deriving DecidableEq
structure T4 (α β γ δ : Type) where
  a : α
  b : β
  c : γ
  d : δ
  deriving DecidableEq
structure T5 (α β γ δ ε : Type) where
  a : α
  b : β
  c : γ
  d : δ
  e : ε
  deriving DecidableEq
instance rpT3 {α β γ : Type} [Rp α] [Rp β] [Rp γ] : Rp (T3 α β γ) := ⟨fun K x H v => ∃ p v1 v2 v3, v = V.ref p ∧ SqT K H p [v1, v2, v3] ∧ Rp.r K x.a H v1 ∧ Rp.r K x.b H v2 ∧ Rp.r K x.c H v3,
  fun e ⟨p, v1, v2, v3, h1, h2, h3, h4, h5⟩ => ⟨p, v1, v2, v3, h1, sqt_up e h2, Rp.up e h3, Rp.up e h4, Rp.up e h5⟩⟩
instance rpT4 {α β γ δ : Type} [Rp α] [Rp β] [Rp γ] [Rp δ] : Rp (T4 α β γ δ) := ⟨fun K x H v => ∃ p v1 v2 v3 v4, v = V.ref p ∧ SqT K H p [v1, v2, v3, v4] ∧ Rp.r K x.a H v1 ∧ Rp.r K x.b H v2 ∧ Rp.r K x.c H v3 ∧ Rp.r K x.d H v4,
  fun e ⟨p, v1, v2, v3, v4, h1, h2, h3, h4, h5, h6⟩ => ⟨p, v1, v2, v3, v4, h1, sqt_up e h2, Rp.up e h3, Rp.up e h4, Rp.up e h5, Rp.up e h6⟩⟩
instance rpT5 {α β γ δ ε : Type} [Rp α] [Rp β] [Rp γ] [Rp δ] [Rp ε] : Rp (T5 α β γ δ ε) := ⟨fun K x H v => ∃ p v1 v2 v3 v4 v5, v = V.ref p ∧ SqT K H p [v1, v2, v3, v4, v5] ∧ Rp.r K x.a H v1 ∧ Rp.r K x.b H v2 ∧ Rp.r K x.c H v3 ∧ Rp.r K x.d H v4 ∧ Rp.r K x.e H v5,
  fun e ⟨p, v1, v2, v3, v4, v5, h1, h2, h3, h4, h5, h6, h7⟩ => ⟨p, v1, v2, v3, v4, v5, h1, sqt_up e h2, Rp.up e h3, Rp.up e h4, Rp.up e h5, Rp.up e h6, Rp.up e h7⟩⟩
/-- None, or a value -/
instance rpOpt {α : Type} [Rp α] : Rp (Option α) := ⟨fun K x H v => match x with
  | none => v = V.non
  | some y => Rp.r K y H v ∧ v ≠ V.non, fun {K x H H' v} e h => by
    cases x with
    | none => exact h
    | some y => exact ⟨Rp.up e h.1, h.2⟩⟩

/-! ### owned parts -/
/-- a list whose items are written values -/
def hl (vs : List V) : OP := ⟨fun _ a M => M = sing a (.lst vs), fun _ h => h⟩
/-- a list -/
def ol (K : PySem.W.Frag) {α : Type} [Rp α] (xs : List α) : OP := ⟨fun I a M => ∃ vs, M = sing a (.lst vs) ∧ Rs K xs I vs, fun e ⟨vs, h1, h2⟩ => ⟨vs, h1, rs_up e h2⟩⟩
/-- what stands at an address -/
def OP.at (P : OP) (v : V) : OP := ⟨fun I a M => v = V.ref a ∧ P.r I a M, fun e ⟨h1, h2⟩ => ⟨h1, P.up e h2⟩⟩

/-! ### slots -/
inductive Sl where
  | no
  | im (p : PV)
  | ow (p : OP)
/-- F: what is owned besides; M: F and the slots' own parts -/
inductive EnvOk (I F : Hp) : Hp → St → List Sl → Prop where
  | nil : EnvOk I F F [] []
  | no {M : Hp} {σ : St} {Γ : List Sl} (o : Option V) : EnvOk I F M σ Γ → EnvOk I F M (o :: σ) (.no :: Γ)
  | im {M : Hp} {σ : St} {Γ : List Sl} {p : PV} {v : V} : p.r I v → EnvOk I F M σ Γ → EnvOk I F M (some v :: σ) (.im p :: Γ)
  | ow {M : Hp} {σ : St} {Γ : List Sl} {p : OP} {a : Addr} {Ma : Hp} : p.r I a Ma → Dis Ma M → EnvOk I F M σ Γ → EnvOk I F (ov Ma M) (some (.ref a) :: σ) (.ow p :: Γ)
section
variable {I F M : Hp} {σ : St} {Γ : List Sl}
theorem EnvOk.up {I' : Hp} (e : Ex I I') : ∀ {M : Hp} {σ : St} {Γ : List Sl}, EnvOk I F M σ Γ → EnvOk I' F M σ Γ
  | _, _, _, .nil => .nil
  | _, _, _, .no o h => .no o (EnvOk.up e h)
  | _, _, _, .im q h => .im (PV.up _ e q) (EnvOk.up e h)
  | _, _, _, .ow q d h => .ow (OP.up _ e q) d (EnvOk.up e h)
theorem EnvOk.len : ∀ {M : Hp} {σ : St} {Γ : List Sl}, EnvOk I F M σ Γ → σ.length = Γ.length
  | _, _, _, .nil => rfl
  | _, _, _, .no o h => congrArg Nat.succ (EnvOk.len h)
  | _, _, _, .im q h => congrArg Nat.succ (EnvOk.len h)
  | _, _, _, .ow q d h => congrArg Nat.succ (EnvOk.len h)
theorem EnvOk.get : ∀ {M : Hp} {σ : St} {Γ : List Sl}, EnvOk I F M σ Γ → ∀ {i : Nat} {p : PV}, Γ[i]? = some (.im p) → ∃ v, σ[i]? = some (some v) ∧ p.r I v
  | _, _, _, .nil, i, p, h => by simp at h
  | _, _, _, .no o h, 0, p, e => by simp at e
  | _, _, _, .no o h, i + 1, p, e => EnvOk.get h (i := i) (by simpa using e)
  | _, _, _, .im q h, 0, p, e => by
    cases (Sl.im.inj (Option.some.inj e))
    exact ⟨_, rfl, q⟩
  | _, _, _, .im q h, i + 1, p, e => EnvOk.get h (i := i) (by simpa using e)
  | _, _, _, .ow q d h, 0, p, e => by simp at e
  | _, _, _, .ow q d h, i + 1, p, e => EnvOk.get h (i := i) (by simpa using e)
/-- an owned slot: its part, and what may be put in its place -/
theorem EnvOk.foc : ∀ {M : Hp} {σ : St} {Γ : List Sl}, EnvOk I F M σ Γ → ∀ {i : Nat} {p : OP}, Γ[i]? = some (.ow p) → ∃ a Ma M', σ[i]? = some (some (.ref a)) ∧ p.r I a Ma ∧ Dis Ma M' ∧ M = ov Ma M' ∧
    (∀ I' p' Ma', Ex I I' → Dis Ma' M' → p'.r I' a Ma' → EnvOk I' F (ov Ma' M') σ (Γ.set i (.ow p'))) ∧ (∀ I' p', Ex I I' → PV.r p' I' (.ref a) → EnvOk I' F M' σ (Γ.set i (.im p'))) ∧ (∀ I', Ex I I' → EnvOk I' F M' σ (Γ.set i .no))
  | _, _, _, .nil, i, p, h => by simp at h
  | _, _, _, .no o h, 0, p, e => by simp at e
  | _, _, _, .im q h, 0, p, e => by simp at e
  | _, _, _, .ow q d h, 0, p, e => by
    cases (Sl.ow.inj (Option.some.inj e))
    exact ⟨_, _, _, rfl, q, d, rfl, fun I' p' Ma' e d' q' => .ow q' d' (h.up e), fun I' p' e q' => .im q' (h.up e), fun I' e => .no _ (h.up e)⟩
  | _, _, _, .no o h, i + 1, p, e => by
    obtain ⟨a, Ma, M', h1, h2, h3, h4, h5, h6, h7⟩ := EnvOk.foc h (i := i) (by simpa using e)
    exact ⟨a, Ma, M', by simpa using h1, h2, h3, h4, fun I' p' Ma' x1 x2 x3 => .no o (h5 I' p' Ma' x1 x2 x3), fun I' p' x1 x2 => .no o (h6 I' p' x1 x2), fun I' x1 => .no o (h7 I' x1)⟩
  | _, _, _, .im q h, i + 1, p, e => by
    obtain ⟨a, Ma, M', h1, h2, h3, h4, h5, h6, h7⟩ := EnvOk.foc h (i := i) (by simpa using e)
    exact ⟨a, Ma, M', by simpa using h1, h2, h3, h4, fun I' p' Ma' x1 x2 x3 => .im (PV.up _ x1 q) (h5 I' p' Ma' x1 x2 x3), fun I' p' x1 x2 => .im (PV.up _ x1 q) (h6 I' p' x1 x2), fun I' x1 => .im (PV.up _ x1 q) (h7 I' x1)⟩
  | _, _, _, .ow (Ma := Mb) q d h, i + 1, p, e => by
    obtain ⟨a, Ma, M', h1, h2, h3, h4, h5, h6, h7⟩ := EnvOk.foc h (i := i) (by simpa using e)
    subst h4
    obtain ⟨d1, d2⟩ := dis_r_ov d
    refine ⟨a, Ma, ov Mb M', by simpa using h1, h2, dis_ov_r d1.symm h3, ?_, fun I' p' Ma' x1 x2 x3 => ?_, fun I' p' x1 x2 => .ow (OP.up _ x1 q) d2 (h6 I' p' x1 x2), fun I' x1 => .ow (OP.up _ x1 q) d2 (h7 I' x1)⟩
    · rw [ov_assoc, ov_assoc, ov_comm d1]
    · obtain ⟨y1, y2⟩ := dis_r_ov x2
      have e2 : ov Ma' (ov Mb M') = ov Mb (ov Ma' M') := by rw [ov_assoc, ov_assoc, ov_comm y1]
      rw [e2]
      exact .ow (OP.up _ x1 q) (dis_ov_r y1.symm d2) (h5 I' p' Ma' x1 y2 x3)
def isOw : Sl → Bool
  | .ow _ => true
  | _ => false
/-- the slot owns nothing -/
def NotOw (Γ : List Sl) (i : Nat) : Prop := (Γ[i]?.map isOw).getD false = false
theorem EnvOk.set {v : V} {p : PV} (q : p.r I v) : ∀ {M : Hp} {σ : St} {Γ : List Sl} {i : Nat}, EnvOk I F M σ Γ → NotOw Γ i → EnvOk I F M (σ.set i (some v)) (Γ.set i (.im p))
  | _, _, _, _, .nil, _ => .nil
  | _, _, _, 0, .no o h, _ => .im q h
  | _, _, _, 0, .im _ h, _ => .im q h
  | _, _, _, 0, .ow _ _ h, e => by simp [NotOw, isOw] at e
  | _, _, _, i + 1, .no o h, e => .no o (EnvOk.set q (i := i) h (by simpa [NotOw] using e))
  | _, _, _, i + 1, .im r h, e => .im r (EnvOk.set q (i := i) h (by simpa [NotOw] using e))
  | _, _, _, i + 1, .ow r d h, e => .ow r d (EnvOk.set q (i := i) h (by simpa [NotOw] using e))
theorem EnvOk.setNo {o : Option V} : ∀ {M : Hp} {σ : St} {Γ : List Sl} {i : Nat}, EnvOk I F M σ Γ → NotOw Γ i → EnvOk I F M (σ.set i o) (Γ.set i .no)
  | _, _, _, _, .nil, _ => .nil
  | _, _, _, 0, .no _ h, _ => .no o h
  | _, _, _, 0, .im _ h, _ => .no o h
  | _, _, _, 0, .ow _ _ h, e => by simp [NotOw, isOw] at e
  | _, _, _, i + 1, .no o h, e => .no o (EnvOk.setNo (i := i) h (by simpa [NotOw] using e))
  | _, _, _, i + 1, .im r h, e => .im r (EnvOk.setNo (i := i) h (by simpa [NotOw] using e))
  | _, _, _, i + 1, .ow r d h, e => .ow r d (EnvOk.setNo (i := i) h (by simpa [NotOw] using e))
/-- a slot takes an owned part -/
theorem EnvOk.take {a : Addr} {p : OP} {Ma : Hp} (q : p.r I a Ma) : ∀ {M : Hp} {σ : St} {Γ : List Sl} {i : Nat}, EnvOk I F M σ Γ → NotOw Γ i → i < Γ.length → Dis Ma M → EnvOk I F (ov Ma M) (σ.set i (some (.ref a))) (Γ.set i (.ow p))
  | _, _, _, _, .nil, _, l, _ => by simp at l
  | _, _, _, 0, .no o h, _, _, d => .ow q d h
  | _, _, _, 0, .im _ h, _, _, d => .ow q d h
  | _, _, _, 0, .ow _ _ h, e, _, _ => by simp [NotOw, isOw] at e
  | _, _, _, i + 1, .no o h, e, l, d => .no o (EnvOk.take q (i := i) h (by simpa [NotOw] using e) (by simpa using l) d)
  | _, _, _, i + 1, .im r h, e, l, d => .im r (EnvOk.take q (i := i) h (by simpa [NotOw] using e) (by simpa using l) d)
  | _, _, _, i + 1, .ow (Ma := Mb) (M := M) r d' h, e, l, d => by
    obtain ⟨y1, y2⟩ := dis_r_ov d
    have e2 : ov Ma (ov Mb M) = ov Mb (ov Ma M) := by rw [ov_assoc, ov_assoc, ov_comm y1]
    rw [e2]
    exact .ow r (dis_ov_r y1.symm d') (EnvOk.take q (i := i) h (by simpa [NotOw] using e) (by simpa using l) y2)
end
/-- what may be forgotten of a slot -/
inductive Wk1 : Sl → Sl → Prop where
  | rfl (a : Sl) : Wk1 a a
  | no (p : PV) : Wk1 (.im p) .no
  | im {p p' : PV} : (∀ I v, p.r I v → p'.r I v) → Wk1 (.im p) (.im p')
  | fr {p : OP} {p' : PV} : (∀ I a Ma, Dis Ma I → p.r I a Ma → p'.r (ov Ma I) (.ref a)) → Wk1 (.ow p) (.im p')
  | drop (p : OP) : Wk1 (.ow p) .no
  | ow {p p' : OP} : (∀ I a Ma, p.r I a Ma → p'.r I a Ma) → Wk1 (.ow p) (.ow p')
inductive Wk : List Sl → List Sl → Prop where
  | nil : Wk [] []
  | cons {a b : Sl} {Γ Γ' : List Sl} : Wk1 a b → Wk Γ Γ' → Wk (a :: Γ) (b :: Γ')
theorem Wk.refl : ∀ Γ : List Sl, Wk Γ Γ
  | [] => .nil
  | a :: Γ => .cons (.rfl a) (Wk.refl Γ)
theorem EnvOk.wk {F : Hp} : ∀ {Γ Γ' : List Sl}, Wk Γ Γ' → ∀ {I M : Hp} {σ : St}, EnvOk I F M σ Γ → Dis M I → ∃ I' M', Ex I I' ∧ Dis M' I' ∧ ov M' I' = ov M I ∧ EnvOk I' F M' σ Γ'
  | _, _, .nil, I, M, σ, h, d => ⟨I, M, Ex.refl I, d, rfl, h⟩
  | _, _, .cons w ws, I, M, σ, h, d => by
    have own : ∀ {Ma M1 : Hp} {σ1 : St}, Dis Ma M1 → EnvOk I F M1 σ1 _ → Dis (ov Ma M1) I → ∃ I' M', Ex I I' ∧ Dis M' I' ∧ EnvOk I' F M' σ1 _ ∧ Dis Ma I' ∧ Dis Ma M' ∧ ov Ma (ov M' I') = ov (ov Ma M1) I := fun {Ma M1 σ1} d1 h1 d2 => by
      obtain ⟨y1, y2⟩ := dis_ov_l d2
      obtain ⟨I', M', x1, x2, x3, x4⟩ := EnvOk.wk ws h1 y2
      have z := dis_ov_r d1 y1
      rw [← x3] at z
      obtain ⟨z1, z2⟩ := dis_r_ov z
      exact ⟨I', M', x1, x2, x4, z2, z1, by rw [x3, ov_assoc]⟩
    cases w with
    | rfl a =>
      cases h with
      | no o h =>
        obtain ⟨I', M', x1, x2, x3, x4⟩ := EnvOk.wk ws h d
        exact ⟨I', M', x1, x2, x3, .no o x4⟩
      | im q h =>
        obtain ⟨I', M', x1, x2, x3, x4⟩ := EnvOk.wk ws h d
        exact ⟨I', M', x1, x2, x3, .im (PV.up _ x1 q) x4⟩
      | ow q d' h =>
        obtain ⟨I', M', x1, x2, x3, x4, x5, x6⟩ := own d' h d
        exact ⟨I', _, x1, dis_ov x4 x2, by rw [← ov_assoc, x6], .ow (OP.up _ x1 q) x5 x3⟩
    | no p =>
      cases h with
      | im q h =>
        obtain ⟨I', M', x1, x2, x3, x4⟩ := EnvOk.wk ws h d
        exact ⟨I', M', x1, x2, x3, .no _ x4⟩
    | im f =>
      cases h with
      | im q h =>
        obtain ⟨I', M', x1, x2, x3, x4⟩ := EnvOk.wk ws h d
        exact ⟨I', M', x1, x2, x3, .im (PV.up _ x1 (f _ _ q)) x4⟩
    | fr f =>
      cases h with
      | ow q d' h =>
        obtain ⟨I', M', x1, x2, x3, x4, x5, x6⟩ := own d' h d
        exact ⟨ov _ I', M', x1.trans (ex_ov x4), dis_ov_r x5.symm x2, by rw [ov_assoc, ← ov_comm x5, ← ov_assoc, x6], .im (f _ _ _ x4 (OP.up _ x1 q)) (x3.up (ex_ov x4))⟩
    | drop p =>
      cases h with
      | ow q d' h =>
        obtain ⟨I', M', x1, x2, x3, x4, x5, x6⟩ := own d' h d
        exact ⟨ov _ I', M', x1.trans (ex_ov x4), dis_ov_r x5.symm x2, by rw [ov_assoc, ← ov_comm x5, ← ov_assoc, x6], .no _ (x3.up (ex_ov x4))⟩
    | ow f =>
      cases h with
      | ow q d' h =>
        obtain ⟨I', M', x1, x2, x3, x4, x5, x6⟩ := own d' h d
        exact ⟨I', _, x1, dis_ov x4 x2, by rw [← ov_assoc, x6], .ow (f _ _ _ (OP.up _ x1 q)) x5 x3⟩
/-- a list is no longer changed -/
theorem fr_ol {K : PySem.W.Frag} {α : Type} [Rp α] {xs : List α} : ∀ I a Ma, Dis Ma I → (ol K xs).r I a Ma → (pv K xs).r (ov Ma I) (.ref a) := fun I a Ma d ⟨vs, e, q⟩ =>
  ⟨a, vs, rfl, by rw [e]; exact ov_l sing_same, rs_up (ex_ov d) q⟩
theorem fr_at {P : OP} {p : PV} {v : V} (h : ∀ I a Ma, Dis Ma I → P.r I a Ma → p.r (ov Ma I) (.ref a)) : ∀ I a Ma, Dis Ma I → (P.at v).r I a Ma → p.r (ov Ma I) (.ref a) := fun I a Ma d ⟨_, q⟩ => h I a Ma d q

/-! ### a state that owns a heap of its own -/
class SH (S : Type) where
  h : S → Hp → Hp → Prop
  up : ∀ {s : S} {I I' G : Hp}, Ex I I' → h s I G → h s I' G
instance shUnit : SH Unit := ⟨fun _ _ G => G = emp, fun _ h => h⟩
/-- G: the state's own; F: what is owned besides -/
def EnvG {S : Type} [SH S] (s : S) (I F M : Hp) (σ : St) (Γ : List Sl) : Prop := ∃ G, SH.h s I G ∧ Dis G F ∧ EnvOk I (ov G F) M σ Γ
/-- .. whatever is owned besides -/
def EnvX (I M : Hp) (σ : St) (Γ : List Sl) : Prop := ∃ F, EnvOk I F M σ Γ
section
variable {S : Type} [SH S] {s : S} {I F M : Hp} {σ : St} {Γ : List Sl}
theorem EnvOk.x (h : EnvOk I F M σ Γ) : EnvX I M σ Γ := ⟨F, h⟩
theorem EnvG.x (h : EnvG s I F M σ Γ) : EnvX I M σ Γ := let ⟨_, _, _, e⟩ := h; ⟨_, e⟩
instance : CoeHead (EnvOk I F M σ Γ) (EnvX I M σ Γ) := ⟨EnvOk.x⟩
instance : CoeHead (EnvG s I F M σ Γ) (EnvX I M σ Γ) := ⟨EnvG.x⟩
theorem EnvX.up {I' : Hp} (a : Ex I I') (h : EnvX I M σ Γ) : EnvX I' M σ Γ := let ⟨_, e⟩ := h; ⟨_, e.up a⟩
theorem EnvX.len (h : EnvX I M σ Γ) : σ.length = Γ.length := let ⟨_, e⟩ := h; e.len
theorem EnvX.get (h : EnvX I M σ Γ) {i : Nat} {p : PV} (hi : Γ[i]? = some (.im p)) : ∃ v, σ[i]? = some (some v) ∧ p.r I v := let ⟨_, e⟩ := h; e.get hi
theorem EnvX.foc (h : EnvX I M σ Γ) {i : Nat} {p : OP} (hi : Γ[i]? = some (.ow p)) : ∃ a Ma M', σ[i]? = some (some (.ref a)) ∧ p.r I a Ma ∧ Dis Ma M' ∧ M = ov Ma M' := by
  obtain ⟨F, e⟩ := h
  obtain ⟨a, Ma, M', h1, h2, h3, h4, _⟩ := e.foc hi
  exact ⟨a, Ma, M', h1, h2, h3, h4⟩
theorem dis_emp {A : Hp} : Dis emp A := fun _ => .inl rfl
theorem ov_empl {A : Hp} : ov emp A = A := by
  funext a
  exact ov_r rfl
theorem EnvG.of (h : EnvOk I F M σ Γ) : EnvG () I F M σ Γ := ⟨emp, rfl, dis_emp, by rw [ov_empl]; exact h⟩
theorem EnvG.unit {s : Unit} (h : EnvG s I F M σ Γ) : EnvOk I F M σ Γ := by
  obtain ⟨G, h1, _, h3⟩ := h
  have e : G = emp := h1
  rw [e, ov_empl] at h3
  exact h3
theorem EnvG.up {I' : Hp} (a : Ex I I') (h : EnvG s I F M σ Γ) : EnvG s I' F M σ Γ := let ⟨G, h1, h2, e⟩ := h; ⟨G, SH.up a h1, h2, e.up a⟩
theorem EnvG.len (h : EnvG s I F M σ Γ) : σ.length = Γ.length := h.x.len
theorem EnvG.get (h : EnvG s I F M σ Γ) {i : Nat} {p : PV} (hi : Γ[i]? = some (.im p)) : ∃ v, σ[i]? = some (some v) ∧ p.r I v := h.x.get hi
theorem EnvG.foc (h : EnvG s I F M σ Γ) {i : Nat} {p : OP} (hi : Γ[i]? = some (.ow p)) : ∃ a Ma M', σ[i]? = some (some (.ref a)) ∧ p.r I a Ma ∧ Dis Ma M' ∧ M = ov Ma M' ∧
    (∀ I' p' Ma', Ex I I' → Dis Ma' M' → p'.r I' a Ma' → EnvG s I' F (ov Ma' M') σ (Γ.set i (.ow p'))) ∧ (∀ I' p', Ex I I' → PV.r p' I' (.ref a) → EnvG s I' F M' σ (Γ.set i (.im p'))) ∧ (∀ I', Ex I I' → EnvG s I' F M' σ (Γ.set i .no)) := by
  obtain ⟨G, g1, g2, e⟩ := h
  obtain ⟨a, Ma, M', h1, h2, h3, h4, h5, h6, h7⟩ := e.foc hi
  exact ⟨a, Ma, M', h1, h2, h3, h4, fun I' p' Ma' x1 x2 x3 => ⟨G, SH.up x1 g1, g2, h5 I' p' Ma' x1 x2 x3⟩, fun I' p' x1 x2 => ⟨G, SH.up x1 g1, g2, h6 I' p' x1 x2⟩, fun I' x1 => ⟨G, SH.up x1 g1, g2, h7 I' x1⟩⟩
theorem EnvG.set {v : V} {p : PV} (q : p.r I v) {i : Nat} (h : EnvG s I F M σ Γ) (n : NotOw Γ i) : EnvG s I F M (σ.set i (some v)) (Γ.set i (.im p)) := let ⟨G, h1, h2, e⟩ := h; ⟨G, h1, h2, e.set q n⟩
theorem EnvG.setNo {o : Option V} {i : Nat} (h : EnvG s I F M σ Γ) (n : NotOw Γ i) : EnvG s I F M (σ.set i o) (Γ.set i .no) := let ⟨G, h1, h2, e⟩ := h; ⟨G, h1, h2, e.setNo n⟩
theorem EnvG.take {a : Addr} {p : OP} {Ma : Hp} (q : p.r I a Ma) {i : Nat} (h : EnvG s I F M σ Γ) (n : NotOw Γ i) (l : i < Γ.length) (d : Dis Ma M) : EnvG s I F (ov Ma M) (σ.set i (some (.ref a))) (Γ.set i (.ow p)) := let ⟨G, h1, h2, e⟩ := h; ⟨G, h1, h2, e.take q n l d⟩
theorem EnvG.wk {Γ' : List Sl} (w : Wk Γ Γ') (h : EnvG s I F M σ Γ) (d : Dis M I) : ∃ I' M', Ex I I' ∧ Dis M' I' ∧ ov M' I' = ov M I ∧ EnvG s I' F M' σ Γ' := by
  obtain ⟨G, h1, h2, e⟩ := h
  obtain ⟨I', M', x1, x2, x3, x4⟩ := e.wk w d
  exact ⟨I', M', x1, x2, x3, G, SH.up x1 h1, h2, x4⟩
end
end Mir

/-! Mir2: the monad of mirrors; what a reading computes -/
namespace Mir
open PySem L2

/-! ### the monad: a state of what is owned; ok or bad -/
/-- an exception: its class, what it holds -/
structure Xc where
  cls : Str
  arg : Option V
inductive R (S α : Type) where
  | ok (a : α) (s : S)
  | bad
  | exc (e : Xc) (s : S)
  | all (p : Addr → Bool) (f : Addr → R S α)
def Mn (S α : Type) : Type := S → R S α
section
variable {S α β : Type}
def R.sat : R S α → (α → S → Prop) → Prop
  | .ok a s, Q => Q a s
  | .bad, _ => False
  | .exc _ _, _ => False
  | .all p f, Q => ∀ a, p a = true → (f a).sat Q
def R.bnd {S' : Type} : R S α → (α → S → R S' β) → (S → S') → R S' β
  | .ok a s, k, _ => k a s
  | .bad, _, _ => .bad
  | .exc e s, _, g => .exc e (g s)
  | .all p f, k, g => .all p fun a => (f a).bnd k g
theorem sat_bnd {S' : Type} {m : R S α} {k : α → S → R S' β} {g : S → S'} {Q : β → S' → Prop} : (m.bnd k g).sat Q ↔ m.sat fun a s => (k a s).sat Q := by
  induction m with
  | ok a s => exact Iff.rfl
  | bad => exact Iff.rfl
  | exc e s => exact Iff.rfl
  | all p f ih => exact ⟨fun h a q => (ih a).mp (h a q), fun h a q => (ih a).mpr (h a q)⟩
def mp (a : α) : Mn S α := fun s => .ok a s
def mbad : Mn S α := fun _ => .bad
def mb (m : Mn S α) (f : α → Mn S β) : Mn S β := fun s => (m s).bnd f id
/-- checked -/
def mc (c : Bool) (a : α) : Mn S α := fun s => match c with
  | true => .ok a s
  | false => .bad
def mo (o : Option α) : Mn S α := fun s => match o with
  | some a => .ok a s
  | none => .bad
/-- of the state -/
def mg (f : S → α) : Mn S α := fun s => .ok (f s) s
def ms (f : S → S) : Mn S Unit := fun s => .ok () (f s)
def mi (b : Bool) (m1 m2 : Mn S α) : Mn S α := match b with
  | true => m1
  | false => m2
/-- of another state: get and put -/
def ml {S' : Type} (g : S → S') (p : S → S' → S) (m : Mn S' α) : Mn S α := fun s => (m (g s)).bnd (fun a s' => .ok a (p s s')) (p s)
/-- of no state -/
def mu (m : Mn Unit α) : Mn S α := fun s => (m ()).bnd (fun a _ => .ok a s) fun _ => s
/-- an address that is chosen otherwise -/
def mall (p : S → Addr → Bool) : Mn S Addr := fun s => .all (p s) fun a => .ok a s
/-- raised -/
def mexc (e : Xc) : Mn S α := fun s => .exc e s
theorem R.sat_imp {m : R S α} {Q Q' : α → S → Prop} (h : m.sat Q) (f : ∀ a s, Q a s → Q' a s) : m.sat Q' := by
  induction m with
  | ok a s => exact f _ _ h
  | bad => exact h
  | exc e s => exact h
  | all p k ih => exact fun a q => ih a (h a q)
theorem sat_mb {m : Mn S α} {f : α → Mn S β} {s : S} {Q : β → S → Prop} : (mb m f s).sat Q ↔ (m s).sat fun a s' => (f a s').sat Q := sat_bnd
theorem sat_mall {p : S → Addr → Bool} {s : S} {Q : Addr → S → Prop} : (mall p s).sat Q ↔ ∀ a, p s a = true → Q a s := Iff.rfl
theorem sat_mp {a : α} {s : S} {Q : α → S → Prop} : (mp a s).sat Q ↔ Q a s := Iff.rfl
theorem sat_mc {c : Bool} {a : α} {s : S} {Q : α → S → Prop} : (mc c a s).sat Q ↔ c = true ∧ Q a s := by
  cases c with
  | true => exact ⟨fun h => ⟨rfl, h⟩, fun h => h.2⟩
  | false => exact ⟨fun h => h.elim, fun h => nomatch h.1⟩
theorem sat_mo {o : Option α} {s : S} {Q : α → S → Prop} : (mo o s).sat Q ↔ ∃ a, o = some a ∧ Q a s := by
  cases o with
  | none => exact ⟨fun h => h.elim, fun ⟨_, h, _⟩ => nomatch h⟩
  | some a => exact ⟨fun h => ⟨a, rfl, h⟩, fun ⟨_, h, q⟩ => by cases h; exact q⟩
theorem sat_mg {f : S → α} {s : S} {Q : α → S → Prop} : (mg f s).sat Q ↔ Q (f s) s := Iff.rfl
theorem sat_ms {f : S → S} {s : S} {Q : Unit → S → Prop} : (ms f s).sat Q ↔ Q () (f s) := Iff.rfl
theorem sat_mbad {s : S} {Q : α → S → Prop} : ((mbad : Mn S α) s).sat Q ↔ False := Iff.rfl
theorem sat_mi {b : Bool} {m1 m2 : Mn S α} {s : S} {Q : α → S → Prop} : (mi b m1 m2 s).sat Q ↔ (b = true → (m1 s).sat Q) ∧ (b = false → (m2 s).sat Q) := by
  cases b with
  | true => exact ⟨fun h => ⟨fun _ => h, fun q => nomatch q⟩, fun h => h.1 rfl⟩
  | false => exact ⟨fun h => ⟨fun q => (nomatch q), fun _ => h⟩, fun h => h.2 rfl⟩
theorem sat_ml {S' : Type} {g : S → S'} {p : S → S' → S} {m : Mn S' α} {s : S} {Q : α → S → Prop} : (ml g p m s).sat Q ↔ (m (g s)).sat fun a s' => Q a (p s s') := sat_bnd
theorem sat_mu {m : Mn Unit α} {s : S} {Q : α → S → Prop} : (mu m s).sat Q ↔ (m ()).sat fun a _ => Q a s := sat_bnd
end

/-! ### judgements -/
section
variable {K : PySem.W.Frag}
/-- an expression of known value p; nothing owned is changed -/
def EP (te : TE) (Γ : List Sl) (p : PV) : Prop := ∀ (I F M : Hp) (σ : L2.St), EnvX I M σ Γ → Dis M I → ∀ Q : VK, (∀ v I', Ex I I' → Dis M I' → p.r I' v → Q v (ov M I')) → te σ (ov M I) Q
/-- a test -/
def TP (tt : TT) (Γ : List Sl) (b : Bool) : Prop := ∀ (I F M : Hp) (σ : L2.St), EnvX I M σ Γ → Dis M I → ∀ Q : Bool → Hp → Prop, (∀ I', Ex I I' → Dis M I' → Q b (ov M I')) → tt σ (ov M I) Q
/-- an expression that may change what is owned, or be bad -/
def EM (K : PySem.W.Frag) {S α : Type} [SH S] [Rp α] (te : TE) (Γ : S → List Sl) (m : Mn S α) : Prop := ∀ (s : S) (I F M : Hp) (σ : L2.St), EnvG s I F M σ (Γ s) → Dis M I → ∀ Q : VK,
  (m s).sat (fun x s' => ∀ v I' M', Ex I I' → Dis M' I' → EnvG s' I' F M' σ (Γ s') → Rp.r K x I' v → Q v (ov M' I')) → te σ (ov M I) Q
def TM {S : Type} [SH S] (tt : TT) (Γ : S → List Sl) (m : Mn S Bool) : Prop := ∀ (s : S) (I F M : Hp) (σ : L2.St), EnvG s I F M σ (Γ s) → Dis M I → ∀ Q : Bool → Hp → Prop,
  (m s).sat (fun b s' => ∀ I' M', Ex I I' → Dis M' I' → EnvG s' I' F M' σ (Γ s') → Q b (ov M' I')) → tt σ (ov M I) Q
section
variable {S α β γ : Type} [SH S] [Rp α] [Rp β] [Rp γ] {te ta tb : TE} {tt : TT} {Γ : S → List Sl} {x : α} {y : β} {z : γ}
theorem em_p {f : S → α} (h : ∀ s, EP te (Γ s) (pv K (f s))) : EM K te Γ (mg f) := fun s I F M σ e d Q q => h s I F M σ e d Q fun v I' a b c => q v I' M a b (e.up a) c
theorem em_pure (h : ∀ s, EP te (Γ s) (pv K x)) : EM K te Γ (mp x) := fun s I F M σ e d Q q => h s I F M σ e d Q fun v I' a b c => q v I' M a b (e.up a) c
theorem tm_pure {b : Bool} (h : ∀ s, TP tt (Γ s) b) : TM tt Γ (mp b) := fun s I F M σ e d Q q => h s I F M σ e d Q fun I' a b => q I' M a b (e.up a)
theorem tm_p {f : S → Bool} (h : ∀ s, TP tt (Γ s) (f s)) : TM tt Γ (mg f) := fun s I F M σ e d Q q => h s I F M σ e d Q fun I' a b => q I' M a b (e.up a)
end

/-! ### names, constants -/
section
variable {Γ : List Sl} {p q w : PV} {te ta tb tc : TE} {tt tu : TT} {a b : Bool}
theorem ep_var {i : Nat} (h : Γ[i]? = some (.im p)) : EP (tVar i) Γ p := fun I F M σ e d Q k => by
  obtain ⟨v, h1, h2⟩ := e.get h
  exact ⟨v, h1, k v I (Ex.refl I) d h2⟩
theorem ep_c {α : Type} [Rp α] {x : α} {v : V} (h : ∀ H, Rp.r K x H v) : EP (tC v) Γ (pv K x) := fun I F M σ e d Q k => k v I (Ex.refl I) d (h I)
theorem ep_int {i : Int} : EP (tC (.int i)) Γ (pv K i) := ep_c fun _ => rfl
theorem ep_bl {i : Bool} : EP (tC (.bl i)) Γ (pv K i) := ep_c fun _ => rfl
theorem ep_str {i : Str} : EP (tC (.str i)) Γ (pv K i) := ep_c fun _ => rfl
theorem ep_non : EP (tC .non) Γ (pv K ()) := ep_c fun _ => rfl
theorem ep_nonO {α : Type} [Rp α] : EP (tC .non) Γ (pv K (none : Option α)) := ep_c fun _ => rfl
theorem ep_some {α : Type} [Rp α] {x : α} (hn : ∀ H v, Rp.r K x H v → v ≠ .non) (h : EP te Γ (pv K x)) : EP te Γ (pv K (some x)) := fun I F M σ e d Q k => h I F M σ e d Q fun v I' a b c => k v I' a b ⟨c, hn _ _ c⟩

/-! ### operators on values -/
/-- what an operator gives of two values -/
def Op2 (r : R2) (p q w : PV) : Prop := ∀ (I M : Hp) (x y : V) (Q : VK), Dis M I → p.r I x → q.r I y → (∀ v I', Ex I I' → Dis M I' → w.r I' v → Q v (ov M I')) → r x y (ov M I) Q
def Op1 (r : V → Hp → VK → Prop) (p w : PV) : Prop := ∀ (I M : Hp) (x : V) (Q : VK), Dis M I → p.r I x → (∀ v I', Ex I I' → Dis M I' → w.r I' v → Q v (ov M I')) → r x (ov M I) Q
theorem op_ii {g : Int → Int → V} {α : Type} [Rp α] {i j : Int} {z : α} (h : ∀ H, Rp.r K z H (g i j)) : Op2 (rI0 g) (pv K i) (pv K j) (pv K z) := fun I M x y Q d hx hy k => ⟨i, j, hx, hy, k _ I (Ex.refl I) d (h I)⟩
theorem op_iiC {C : Int → Int → Prop} {g : Int → Int → V} {α : Type} [Rp α] {i j : Int} {z : α} (c : C i j) (h : ∀ H, Rp.r K z H (g i j)) : Op2 (rI C g) (pv K i) (pv K j) (pv K z) := fun I M x y Q d hx hy k => ⟨i, j, hx, hy, c, k _ I (Ex.refl I) d (h I)⟩
theorem ep_op {r : R2} (ha : EP ta Γ p) (hb : EP tb Γ q) (h : Op2 r p q w) : EP (tOp r ta tb) Γ w := fun I F M σ e d Q k =>
  ha I F M σ e d _ fun x I1 a1 d1 r1 => hb I1 F M σ (e.up a1) d1 _ fun y I2 a2 d2 r2 => h I2 M x y Q d2 (p.up a2 r1) r2 fun v I3 a3 d3 r3 => k v I3 ((a1.trans a2).trans a3) d3 r3
theorem ep_un {r : V → Hp → VK → Prop} (ha : EP ta Γ p) (h : Op1 r p w) : EP (tUn r ta) Γ w := fun I F M σ e d Q k =>
  ha I F M σ e d _ fun x I1 a1 d1 r1 => h I1 M x Q d1 r1 fun v I3 a3 d3 r3 => k v I3 (a1.trans a3) d3 r3
end
section
variable {S α β γ : Type} [SH S] [Rp α] [Rp β] [Rp γ] {ta tb : TE} {Γ : S → List Sl} {x : α} {y : β} {z : γ} {m1 : Mn S α} {m2 : Mn S β} {r : R2} {g : α → β → γ} {c : α → β → Bool}
/-- both parts change or are checked -/
theorem em_op (ha : EM K ta Γ m1) (hb : EM K tb Γ m2) (h : ∀ x y, Op2 r (pv K x) (pv K y) (pv K (g x y))) : EM K (tOp r ta tb) Γ (mb m1 fun x => mb m2 fun y => mp (g x y)) := fun s I F M σ e d Q q =>
  ha s I F M σ e d _ (R.sat_imp (sat_mb.mp q) fun x s1 q v1 I1 M1 a1 d1 e1 r1 => hb s1 I1 F M1 σ e1 d1 _ (R.sat_imp (sat_mb.mp q) fun y s2 q v2 I2 M2 a2 d2 e2 r2 =>
    h x y I2 M2 v1 v2 Q d2 (Rp.up a2 r1) r2 fun v I3 a3 d3 r3 => q v I3 M2 ((a1.trans a2).trans a3) d3 (e2.up a3) r3))
theorem em_opC (ha : EM K ta Γ m1) (hb : EM K tb Γ m2) (h : ∀ x y, c x y = true → Op2 r (pv K x) (pv K y) (pv K (g x y))) : EM K (tOp r ta tb) Γ (mb m1 fun x => mb m2 fun y => mc (c x y) (g x y)) := fun s I F M σ e d Q q =>
  ha s I F M σ e d _ (R.sat_imp (sat_mb.mp q) fun x s1 q v1 I1 M1 a1 d1 e1 r1 => hb s1 I1 F M1 σ e1 d1 _ (R.sat_imp (sat_mb.mp q) fun y s2 q v2 I2 M2 a2 d2 e2 r2 =>
    h x y (sat_mc.mp q).1 I2 M2 v1 v2 Q d2 (Rp.up a2 r1) r2 fun v I3 a3 d3 r3 => (sat_mc.mp q).2 v I3 M2 ((a1.trans a2).trans a3) d3 (e2.up a3) r3))
/-- the left part known -/
theorem em_opl (ha : ∀ s, EP ta (Γ s) (pv K x)) (hb : EM K tb Γ m2) (h : ∀ y, Op2 r (pv K x) (pv K y) (pv K (g x y))) : EM K (tOp r ta tb) Γ (mb m2 fun y => mp (g x y)) := fun s I F M σ e d Q q =>
  ha s I F M σ e d _ fun v1 I1 a1 d1 r1 => hb s I1 F M σ (e.up a1) d1 _ (R.sat_imp (sat_mb.mp q) fun y s2 q v2 I2 M2 a2 d2 e2 r2 =>
    h y I2 M2 v1 v2 Q d2 (Rp.up a2 r1) r2 fun v I3 a3 d3 r3 => q v I3 M2 ((a1.trans a2).trans a3) d3 (e2.up a3) r3)
theorem em_oplC (ha : ∀ s, EP ta (Γ s) (pv K x)) (hb : EM K tb Γ m2) (h : ∀ y, c x y = true → Op2 r (pv K x) (pv K y) (pv K (g x y))) : EM K (tOp r ta tb) Γ (mb m2 fun y => mc (c x y) (g x y)) := fun s I F M σ e d Q q =>
  ha s I F M σ e d _ fun v1 I1 a1 d1 r1 => hb s I1 F M σ (e.up a1) d1 _ (R.sat_imp (sat_mb.mp q) fun y s2 q v2 I2 M2 a2 d2 e2 r2 =>
    h y (sat_mc.mp q).1 I2 M2 v1 v2 Q d2 (Rp.up a2 r1) r2 fun v I3 a3 d3 r3 => (sat_mc.mp q).2 v I3 M2 ((a1.trans a2).trans a3) d3 (e2.up a3) r3)
/-- the right part known -/
theorem em_opr (ha : EM K ta Γ m1) (hb : ∀ s, EP tb (Γ s) (pv K y)) (h : ∀ x, Op2 r (pv K x) (pv K y) (pv K (g x y))) : EM K (tOp r ta tb) Γ (mb m1 fun x => mp (g x y)) := fun s I F M σ e d Q q =>
  ha s I F M σ e d _ (R.sat_imp (sat_mb.mp q) fun x s1 q v1 I1 M1 a1 d1 e1 r1 => hb s1 I1 F M1 σ e1 d1 _ fun v2 I2 a2 d2 r2 =>
    h x I2 M1 v1 v2 Q d2 (Rp.up a2 r1) r2 fun v I3 a3 d3 r3 => q v I3 M1 ((a1.trans a2).trans a3) d3 (e1.up (a2.trans a3)) r3)
theorem em_oprC (ha : EM K ta Γ m1) (hb : ∀ s, EP tb (Γ s) (pv K y)) (h : ∀ x, c x y = true → Op2 r (pv K x) (pv K y) (pv K (g x y))) : EM K (tOp r ta tb) Γ (mb m1 fun x => mc (c x y) (g x y)) := fun s I F M σ e d Q q =>
  ha s I F M σ e d _ (R.sat_imp (sat_mb.mp q) fun x s1 q v1 I1 M1 a1 d1 e1 r1 => hb s1 I1 F M1 σ e1 d1 _ fun v2 I2 a2 d2 r2 =>
    h x (sat_mc.mp q).1 I2 M1 v1 v2 Q d2 (Rp.up a2 r1) r2 fun v I3 a3 d3 r3 => (sat_mc.mp q).2 v I3 M1 ((a1.trans a2).trans a3) d3 (e1.up (a2.trans a3)) r3)
/-- both parts known -/
theorem em_opC2 {c : Bool} (ha : ∀ s, EP ta (Γ s) (pv K x)) (hb : ∀ s, EP tb (Γ s) (pv K y)) (h : c = true → Op2 r (pv K x) (pv K y) (pv K z)) : EM K (tOp r ta tb) Γ (mc c z) := fun s I F M σ e d Q q =>
  ep_op (ha s) (hb s) (h (sat_mc.mp q).1) I F M σ e d Q fun v I3 a3 d3 r3 => (sat_mc.mp q).2 v I3 M a3 d3 (e.up a3) r3
/-- .. in the state -/
theorem em_un {r : V → Hp → VK → Prop} {g : α → γ} (ha : EM K ta Γ m1) (h : ∀ x, Op1 r (pv K x) (pv K (g x))) : EM K (tUn r ta) Γ (mb m1 fun x => mp (g x)) := fun s I F M σ e d Q q =>
  ha s I F M σ e d _ (R.sat_imp (sat_mb.mp q) fun x s1 q v1 I1 M1 a1 d1 e1 r1 => h x I1 M1 v1 Q d1 r1 fun v I3 a3 d3 r3 => q v I3 M1 (a1.trans a3) d3 (e1.up a3) r3)
end
end
end Mir

/-! Mir3: operators, tests, arguments, displays, items, calls -/
namespace Mir
open PySem L2
section
variable {K : PySem.W.Frag}
/-! ### operators on ints -/
section
variable {i j : Int}
theorem o_add : Op2 (rI0 fun i j => .int (i + j)) (pv K i) (pv K j) (pv K (i + j)) := op_ii fun _ => rfl
theorem o_sub : Op2 (rI0 fun i j => .int (i - j)) (pv K i) (pv K j) (pv K (i - j)) := op_ii fun _ => rfl
theorem o_lt : Op2 (rI0 fun i j => .bl (decide (i < j))) (pv K i) (pv K j) (pv K (decide (i < j))) := op_ii fun _ => rfl
theorem o_le : Op2 (rI0 fun i j => .bl (decide (i ≤ j))) (pv K i) (pv K j) (pv K (decide (i ≤ j))) := op_ii fun _ => rfl
theorem o_gt : Op2 (rI0 fun i j => .bl (decide (j < i))) (pv K i) (pv K j) (pv K (decide (j < i))) := op_ii fun _ => rfl
theorem o_ge : Op2 (rI0 fun i j => .bl (decide (j ≤ i))) (pv K i) (pv K j) (pv K (decide (j ≤ i))) := op_ii fun _ => rfl
def smallI (i : Int) : Bool := decide (-(2 ^ 64) < i ∧ i < 2 ^ 64)
def mulOk (i j : Int) : Bool := decide (i.natAbs.log2 + j.natAbs.log2 < 1000000)
def divOk (j : Int) : Bool := decide (0 < j ∧ j.natAbs.log2 < 9000)
def modOk (j : Int) : Bool := decide (0 < j)
def powOk (i j : Int) : Bool := decide (0 ≤ j ∧ j ≤ 1000000 ∧ i.natAbs < 2 ^ 64)
/-- one factor is small -/
theorem o_mulL (h : smallI i = true) : Op2 (rI CMul fun i j => .int (i * j)) (pv K i) (pv K j) (pv K (i * j)) := op_iiC (show CMul i j from .inl (of_decide_eq_true h)) fun _ => rfl
theorem o_mulR (h : smallI j = true) : Op2 (rI CMul fun i j => .int (i * j)) (pv K i) (pv K j) (pv K (i * j)) := op_iiC (show CMul i j from .inr (of_decide_eq_true h)) fun _ => rfl
theorem o_mulW (h : mulOk i j = true) : Op2 (rI CMulW fun i j => .int (i * j)) (pv K i) (pv K j) (pv K (i * j)) := op_iiC (show CMulW i j from (of_decide_eq_true h : i.natAbs.log2 + j.natAbs.log2 < 1000000)) fun _ => rfl
theorem o_divW (h : divOk j = true) : Op2 (rI CDivW fun i j => .int (i / j)) (pv K i) (pv K j) (pv K (i / j)) := op_iiC (show CDivW i j from (of_decide_eq_true h : 0 < j ∧ j.natAbs.log2 < 9000)) fun _ => rfl
theorem o_mod (h : modOk j = true) : Op2 (rI (fun _ j => 0 < j) fun i j => .int (i % j)) (pv K i) (pv K j) (pv K (i % j)) := op_iiC (C := fun _ j => 0 < j) (of_decide_eq_true h) fun _ => rfl
theorem o_pow (h : powOk i j = true) : Op2 (rI CPow fun i j => .int (i ^ j.toNat)) (pv K i) (pv K j) (pv K (i ^ j.toNat)) := op_iiC (show CPow i j from (of_decide_eq_true h : 0 ≤ j ∧ j ≤ 1000000 ∧ i.natAbs < 2 ^ 64)) fun _ => rfl
theorem o_neg : Op1 (rU fun i => .int (-i)) (pv K i) (pv K (-i)) := fun I M x Q d hx k => ⟨i, hx, k _ I (Ex.refl I) d rfl⟩
/-- scalars by == -/
class Eqs (α : Type) [Rp α] [Sc α] where
  sc : ∀ x y : α, scal (Sc.s x) (Sc.s y) = true
  inj : ∀ x y : α, Sc.s x = Sc.s y → x = y
instance eqsInt : Eqs Int := ⟨fun _ _ => rfl, fun _ _ h => V.int.inj h⟩
instance eqsBool : Eqs Bool := ⟨fun _ _ => rfl, fun _ _ h => V.bl.inj h⟩
instance eqsStr : Eqs Str := ⟨fun _ _ => rfl, fun _ _ h => V.str.inj h⟩
theorem dec_s {α : Type} [Rp α] [Sc α] [Eqs α] [DecidableEq α] (x y : α) : decide (Sc.s x = Sc.s y) = decide (x = y) := by
  by_cases h : x = y
  · rw [h]; simp
  · rw [decide_eq_false h, decide_eq_false (fun q => h (Eqs.inj _ _ q))]
theorem o_eq {α : Type} [Rp α] [Sc α] [Eqs α] [DecidableEq α] {x y : α} : Op2 rEq (pv K x) (pv K y) (pv K (decide (x = y))) := fun I M u v Q d hx hy k => by
  cases Sc.eq.mp hx
  cases Sc.eq.mp hy
  refine ⟨Eqs.sc _ _, ?_⟩
  rw [dec_s]
  exact k _ I (Ex.refl I) d rfl
theorem o_ne {α : Type} [Rp α] [Sc α] [Eqs α] [DecidableEq α] {x y : α} : Op2 rNe (pv K x) (pv K y) (pv K (!decide (x = y))) := fun I M u v Q d hx hy k => by
  cases Sc.eq.mp hx
  cases Sc.eq.mp hy
  refine ⟨Eqs.sc _ _, ?_⟩
  rw [dec_s]
  exact k _ I (Ex.refl I) d rfl
/-- x is None, of a type that is not None -/
theorem o_isN {p : PV} (b : Bool) (h : ∀ H v, p.r H v → decide (v = .non) = b) : Op2 (fun x y H Q => y = .non ∧ Q (.bl (decide (x = .non))) H) p (pv K ()) (pv K b) := fun I M x y Q d hx hy k => by
  refine ⟨hy, ?_⟩
  rw [h _ _ hx]
  exact k _ I (Ex.refl I) d rfl
theorem isN_opt {α : Type} [Rp α] {x : Option α} : ∀ H v, (pv K x).r H v → decide (v = .non) = x.isNone := fun H v h => by
  cases x with
  | none => exact decide_eq_true h
  | some y => exact decide_eq_false h.2
end

/-! ### tests -/
section
variable {Γ : List Sl} {p q q2 w : PV} {te ta tb tc : TE} {tt tu : TT} {a b : Bool} {r r' : R2}
theorem tp_test (h : EP te Γ (pv K b)) : TP (tTest te) Γ b := fun I F M σ e d Q k => h I F M σ e d _ fun v I' x y z => ⟨b, z, k I' x y⟩
theorem tp_B (h : EP te Γ (pv K b)) : TP (tB te) Γ b := fun I F M σ e d Q k => h I F M σ e d _ fun v I' x y z => ⟨b, z, k I' x y⟩
theorem tp_not (h : TP tt Γ b) : TP (tNot tt) Γ (!b) := fun I F M σ e d Q k => h I F M σ e d _ fun I' x y => k I' x y
theorem tp_and (h1 : TP tt Γ a) (h2 : a = true → TP tu Γ b) : TP (tAnd tt tu) Γ (a && b) := fun I F M σ e d Q k => h1 I F M σ e d _ fun I1 x1 y1 => by
  cases a with
  | true =>
    show tu σ (ov M I1) Q
    exact h2 rfl I1 F M σ (e.up x1) y1 _ fun I2 x2 y2 => k I2 (x1.trans x2) y2
  | false => exact k I1 x1 y1
theorem tp_or (h1 : TP tt Γ a) (h2 : a = false → TP tu Γ b) : TP (tOr tt tu) Γ (a || b) := fun I F M σ e d Q k => h1 I F M σ e d _ fun I1 x1 y1 => by
  cases a with
  | true => exact k I1 x1 y1
  | false =>
    show tu σ (ov M I1) Q
    exact h2 rfl I1 F M σ (e.up x1) y1 _ fun I2 x2 y2 => k I2 (x1.trans x2) y2
theorem ep_andV (h1 : EP ta Γ (pv K a)) (h2 : a = true → EP tb Γ (pv K b)) : EP (tAndV ta tb) Γ (pv K (a && b)) := fun I F M σ e d Q k => h1 I F M σ e d _ fun v I1 x1 y1 z1 => ⟨a, z1, by
  cases a with
  | true =>
    show tb σ (ov M I1) Q
    exact h2 rfl I1 F M σ (e.up x1) y1 _ fun v I2 x2 y2 z2 => k v I2 (x1.trans x2) y2 z2
  | false => exact k _ I1 x1 y1 rfl⟩
theorem ep_orV (h1 : EP ta Γ (pv K a)) (h2 : a = false → EP tb Γ (pv K b)) : EP (tOrV ta tb) Γ (pv K (a || b)) := fun I F M σ e d Q k => h1 I F M σ e d _ fun v I1 x1 y1 z1 => ⟨a, z1, by
  cases a with
  | true => exact k _ I1 x1 y1 rfl
  | false =>
    show tb σ (ov M I1) Q
    exact h2 rfl I1 F M σ (e.up x1) y1 _ fun v I2 x2 y2 z2 => k v I2 (x1.trans x2) y2 z2⟩
theorem ep_notV (h1 : EP ta Γ (pv K a)) : EP (tNotV ta) Γ (pv K (!a)) := fun I F M σ e d Q k => h1 I F M σ e d _ fun v I1 x1 y1 z1 => ⟨a, z1, k _ I1 x1 y1 rfl⟩
theorem ep_chain (ha : EP ta Γ p) (hb : EP tb Γ q) (hc : EP tc Γ q2) (h : Op2 r p q (pv K a)) (h' : Op2 r' q q2 (pv K b)) : EP (tChain r r' ta tb tc) Γ (pv K (a && b)) := fun I F M σ e d Q k =>
  ha I F M σ e d _ fun x I1 x1 y1 z1 => hb I1 F M σ (e.up x1) y1 _ fun y I2 x2 y2 z2 => h I2 M x y _ y2 (p.up x2 z1) z2 fun v I3 x3 y3 z3 => ⟨a, z3, by
    cases a with
    | true =>
      show tc σ (ov M I3) _
      exact hc I3 F M σ (e.up ((x1.trans x2).trans x3)) y3 _ fun u I4 x4 y4 z4 => h' I4 M y u Q y4 (q.up (x3.trans x4) z2) z4 fun v I5 x5 y5 z5 => k v I5 ((((x1.trans x2).trans x3).trans x4).trans x5) y5 z5
    | false => exact k _ I3 ((x1.trans x2).trans x3) y3 rfl⟩
theorem ep_if {α : Type} [Rp α] {x y : α} (h : TP tt Γ b) (h1 : b = true → EP ta Γ (pv K x)) (h2 : b = false → EP tb Γ (pv K y)) : EP (tIf tt ta tb) Γ (pv K (cond b x y)) := fun I F M σ e d Q k => h I F M σ e d _ fun I1 x1 y1 => by
  cases b with
  | true => exact h1 rfl I1 F M σ (e.up x1) y1 Q fun v I2 x2 y2 z2 => k v I2 (x1.trans x2) y2 z2
  | false => exact h2 rfl I1 F M σ (e.up x1) y1 Q fun v I2 x2 y2 z2 => k v I2 (x1.trans x2) y2 z2
end
section
variable {S α β γ : Type} [SH S] [Rp α] {Γ : S → List Sl} {te ta tb tc : TE} {tt tu : TT}
theorem tm_test {m : Mn S Bool} (h : EM K te Γ m) : TM (tTest te) Γ m := fun s I F M σ e d Q q => h s I F M σ e d _ (R.sat_imp q fun b s' q v I' M' a1 d1 e1 r1 => ⟨b, r1, q I' M' a1 d1 e1⟩)
theorem tm_B {m : Mn S Bool} (h : EM K te Γ m) : TM (tB te) Γ m := fun s I F M σ e d Q q => h s I F M σ e d _ (R.sat_imp q fun b s' q v I' M' a1 d1 e1 r1 => ⟨b, r1, q I' M' a1 d1 e1⟩)
theorem tm_not {m : Mn S Bool} (h : TM tt Γ m) : TM (tNot tt) Γ (mb m fun b => mp (!b)) := fun s I F M σ e d Q q => h s I F M σ e d _ (R.sat_imp (sat_mb.mp q) fun b s' q I' M' a1 d1 e1 => q I' M' a1 d1 e1)
theorem tm_and {m1 m2 : Mn S Bool} (h1 : TM tt Γ m1) (h2 : TM tu Γ m2) : TM (tAnd tt tu) Γ (mb m1 fun b => mi b m2 (mp false)) := fun s I F M σ e d Q q => h1 s I F M σ e d _ (R.sat_imp (sat_mb.mp q) fun b s1 q I1 M1 a1 d1 e1 => by
  cases b with
  | true =>
    show tu σ (ov M1 I1) Q
    exact h2 s1 I1 F M1 σ e1 d1 _ (R.sat_imp q fun b s2 q I2 M2 a2 d2 e2 => q I2 M2 (a1.trans a2) d2 e2)
  | false => exact q I1 M1 a1 d1 e1)
theorem tm_or {m1 m2 : Mn S Bool} (h1 : TM tt Γ m1) (h2 : TM tu Γ m2) : TM (tOr tt tu) Γ (mb m1 fun b => mi b (mp true) m2) := fun s I F M σ e d Q q => h1 s I F M σ e d _ (R.sat_imp (sat_mb.mp q) fun b s1 q I1 M1 a1 d1 e1 => by
  cases b with
  | true => exact q I1 M1 a1 d1 e1
  | false =>
    show tu σ (ov M1 I1) Q
    exact h2 s1 I1 F M1 σ e1 d1 _ (R.sat_imp q fun b s2 q I2 M2 a2 d2 e2 => q I2 M2 (a1.trans a2) d2 e2))
theorem em_andV {m1 m2 : Mn S Bool} (h1 : EM K ta Γ m1) (h2 : EM K tb Γ m2) : EM K (tAndV ta tb) Γ (mb m1 fun b => mi b m2 (mp false)) := fun s I F M σ e d Q q => h1 s I F M σ e d _ (R.sat_imp (sat_mb.mp q) fun b s1 q v1 I1 M1 a1 d1 e1 r1 => ⟨b, r1, by
  cases b with
  | true =>
    show tb σ (ov M1 I1) Q
    exact h2 s1 I1 F M1 σ e1 d1 _ (R.sat_imp q fun b s2 q v I2 M2 a2 d2 e2 => q v I2 M2 (a1.trans a2) d2 e2)
  | false => exact q _ I1 M1 a1 d1 e1 rfl⟩)
theorem em_orV {m1 m2 : Mn S Bool} (h1 : EM K ta Γ m1) (h2 : EM K tb Γ m2) : EM K (tOrV ta tb) Γ (mb m1 fun b => mi b (mp true) m2) := fun s I F M σ e d Q q => h1 s I F M σ e d _ (R.sat_imp (sat_mb.mp q) fun b s1 q v1 I1 M1 a1 d1 e1 r1 => ⟨b, r1, by
  cases b with
  | true => exact q _ I1 M1 a1 d1 e1 rfl
  | false =>
    show tb σ (ov M1 I1) Q
    exact h2 s1 I1 F M1 σ e1 d1 _ (R.sat_imp q fun b s2 q v I2 M2 a2 d2 e2 => q v I2 M2 (a1.trans a2) d2 e2)⟩)
theorem em_notV {m1 : Mn S Bool} (h1 : EM K ta Γ m1) : EM K (tNotV ta) Γ (mb m1 fun b => mp (!b)) := fun s I F M σ e d Q q => h1 s I F M σ e d _ (R.sat_imp (sat_mb.mp q) fun b s1 q v1 I1 M1 a1 d1 e1 r1 => ⟨b, r1, q _ I1 M1 a1 d1 e1 rfl⟩)
theorem em_if {m : Mn S Bool} {m1 m2 : Mn S α} (h : TM tt Γ m) (h1 : EM K ta Γ m1) (h2 : EM K tb Γ m2) : EM K (tIf tt ta tb) Γ (mb m fun b => mi b m1 m2) := fun s I F M σ e d Q q => h s I F M σ e d _ (R.sat_imp (sat_mb.mp q) fun b s1 q I1 M1 a1 d1 e1 => by
  cases b with
  | true => exact h1 s1 I1 F M1 σ e1 d1 Q (R.sat_imp q fun b s2 q v I2 M2 a2 d2 e2 => q v I2 M2 (a1.trans a2) d2 e2)
  | false => exact h2 s1 I1 F M1 σ e1 d1 Q (R.sat_imp q fun b s2 q v I2 M2 a2 d2 e2 => q v I2 M2 (a1.trans a2) d2 e2))
/-- the test known -/
theorem em_ifp {b : S → Bool} {m1 m2 : Mn S α} (h : ∀ s, TP tt (Γ s) (b s)) (h1 : EM K ta Γ m1) (h2 : EM K tb Γ m2) : EM K (tIf tt ta tb) Γ (mb (mg b) fun b => mi b m1 m2) := em_if (tm_p h) h1 h2
end

/-! ### arguments -/
section
/-- arguments of known values -/
def AP (ta : TA) (Γ : List Sl) (ps : List PV) : Prop := ∀ (I F M : Hp) (σ : L2.St), EnvX I M σ Γ → Dis M I → ∀ Q : List V → Hp → Prop, (∀ vs I', Ex I I' → Dis M I' → All2 (fun (p : PV) v => p.r I' v) ps vs → Q vs (ov M I')) → ta σ (ov M I) Q
theorem pvs_up {I I' : Hp} (e : Ex I I') {ps : List PV} {vs : List V} (h : All2 (fun (p : PV) v => p.r I v) ps vs) : All2 (fun (p : PV) v => p.r I' v) ps vs := h.imp fun p _ q => p.up e q
variable {Γ : List Sl} {p : PV} {ps : List PV} {te : TE} {ta : TA}
theorem ap_nil : AP tNil Γ [] := fun I F M σ e d Q k => k [] I (Ex.refl I) d .nil
theorem ap_cons (h : EP te Γ p) (t : AP ta Γ ps) : AP (tCons te ta) Γ (p :: ps) := fun I F M σ e d Q k =>
  h I F M σ e d _ fun v I1 a1 d1 r1 => t I1 F M σ (e.up a1) d1 _ fun vs I2 a2 d2 r2 => k (v :: vs) I2 (a1.trans a2) d2 (.cons (p.up a2 r1) r2)
/-- arguments that are checked or change what is owned: m gives a datum of them -/
def AM {S ρ : Type} [SH S] (ta : TA) (Γ : S → List Sl) (m : Mn S ρ) (ps : ρ → List PV) : Prop := ∀ (s : S) (I F M : Hp) (σ : L2.St), EnvG s I F M σ (Γ s) → Dis M I → ∀ Q : List V → Hp → Prop,
  (m s).sat (fun x s' => ∀ vs I' M', Ex I I' → Dis M' I' → EnvG s' I' F M' σ (Γ s') → All2 (fun (p : PV) v => p.r I' v) (ps x) vs → Q vs (ov M' I')) → ta σ (ov M I) Q
section
variable {S ρ α : Type} [SH S] [Rp α] {Γ : S → List Sl} {te : TE} {ta : TA}
theorem am_p {f : S → ρ} {ps : ρ → List PV} (h : ∀ s, AP ta (Γ s) (ps (f s))) : AM ta Γ (mg f) ps := fun s I F M σ e d Q q => h s I F M σ e d Q fun vs I' a b c => q vs I' M a b (e.up a) c
theorem am_nil : AM (S := S) tNil Γ (mp ()) (fun _ => []) := fun s I F M σ e d Q k => k [] I M (Ex.refl I) d e .nil
theorem am_cons {m1 : Mn S α} {m2 : Mn S ρ} {ps : ρ → List PV} (h : EM K te Γ m1) (t : AM ta Γ m2 ps) : AM (tCons te ta) Γ (mb m1 fun x => mb m2 fun y => mp (x, y)) (fun z => pv K z.1 :: ps z.2) := fun s I F M σ e d Q q =>
  h s I F M σ e d _ (R.sat_imp (sat_mb.mp q) fun x s1 q v I1 M1 a1 d1 e1 r1 => t s1 I1 F M1 σ e1 d1 _ (R.sat_imp (sat_mb.mp q) fun y s2 q vs I2 M2 a2 d2 e2 r2 =>
    q (v :: vs) I2 M2 (a1.trans a2) d2 e2 (.cons (Rp.up a2 r1) r2)))
end

/-! ### displays -/
/-- values as one type -/
theorem rs_of {α : Type} [Rp α] {I : Hp} : ∀ {xs : List α} {vs : List V}, All2 (fun (p : PV) v => p.r I v) (xs.map (pv K)) vs → Rs K xs I vs
  | [], _, .nil => .nil
  | _ :: _, _, .cons h t => .cons h (rs_of t)
theorem sz2 {n : Nat} (h : n ≤ 1000) : n ≤ sizeLine := Nat.le_trans h (by decide)
theorem mk_list {α : Type} [Rp α] {xs : List α} {I M : Hp} {p : Addr} {vs : List V} (d : Dis M I) (hp : ov M I p = none) (h : Rs K xs I vs) : Ex I (upd I p (.lst vs)) ∧ Dis M (upd I p (.lst vs)) ∧ Rp.r K xs (upd I p (.lst vs)) (.ref p) ∧ upd (ov M I) p (.lst vs) = ov M (upd I p (.lst vs)) := by
  obtain ⟨h1, h2⟩ := ov_none hp
  exact ⟨Ex.new h2, dis_upd d h1, ⟨p, vs, rfl, upd_same, rs_up (Ex.new h2) h⟩, ov_upd h1⟩
theorem mk_tup {I M : Hp} {p : Addr} {vs : List V} (d : Dis M I) (hp : ov M I p = none) : Ex I (upd I p (.tup vs)) ∧ Dis M (upd I p (.tup vs)) ∧ SqT K (upd I p (.tup vs)) p vs ∧ upd (ov M I) p (.tup vs) = ov M (upd I p (.tup vs)) := by
  obtain ⟨h1, h2⟩ := ov_none hp
  exact ⟨Ex.new h2, dis_upd d h1, SqT.of upd_same, ov_upd h1⟩
theorem ep_lst {α : Type} [Rp α] {xs : List α} (h : AP ta Γ (xs.map (pv K))) (hl : xs.length ≤ 1000 := by decide) : EP (tLst ta) Γ (pv K xs) := fun I F M σ e d Q k => h I F M σ e d _ fun vs I1 a1 d1 r1 => by
  have r := rs_of r1
  refine ⟨by rw [← r.length]; exact sz2 hl, fun p hp => ?_⟩
  obtain ⟨x1, x2, x3, x4⟩ := mk_list d1 hp r
  rw [x4]
  exact k _ _ (a1.trans x1) x2 x3
theorem em_lst {S ρ α : Type} [SH S] [Rp α] {Γ : S → List Sl} {m : Mn S ρ} {f : ρ → List α} (h : AM ta Γ m fun z => (f z).map (pv K)) (hl : ∀ z, (f z).length ≤ 1000 := by intro _; decide) : EM K (tLst ta) Γ (mb m fun z => mp (f z)) := fun s I F M σ e d Q q =>
  h s I F M σ e d _ (R.sat_imp (sat_mb.mp q) fun z s1 q vs I1 M1 a1 d1 e1 r1 => by
  have r := rs_of r1
  refine ⟨by rw [← r.length]; exact sz2 (hl z), fun p hp => ?_⟩
  obtain ⟨x1, x2, x3, x4⟩ := mk_list d1 hp r
  rw [x4]
  exact q _ _ _ (a1.trans x1) x2 (e1.up x1) x3)
/-- what a tuple of such values stands for -/
def TupOf (K : PySem.W.Frag) {α : Type} [Rp α] (ps : List PV) (x : α) : Prop := ps.length ≤ 1000 ∧ ∀ (I : Hp) (p : Addr) (vs : List V), All2 (fun (p : PV) v => p.r I v) ps vs → SqT K I p vs → Rp.r K x I (.ref p)
theorem tupTu {α : Type} [Rp α] {xs : List α} (hl : xs.length ≤ 1000 := by decide) : TupOf K (xs.map (pv K)) (Tu.mk xs) := ⟨by rw [List.length_map]; exact hl, fun I p vs h q => ⟨p, vs, rfl, q, rs_of h⟩⟩
theorem all2_c {α β : Type} {F : α → β → Prop} {a : α} {as : List α} {bs : List β} (h : All2 F (a :: as) bs) : ∃ b bs', bs = b :: bs' ∧ F a b ∧ All2 F as bs' := by
  cases h with
  | cons h t => exact ⟨_, _, rfl, h, t⟩
theorem all2_n {α β : Type} {F : α → β → Prop} {bs : List β} (h : All2 F [] bs) : bs = [] := by
  cases h with
  | nil => rfl
theorem tup2 {α β : Type} [Rp α] [Rp β] {x : α} {y : β} : TupOf K [pv K x, pv K y] (x, y) := ⟨Nat.le_of_ble_eq_true rfl, fun I p vs h q => by
  obtain ⟨v1, _, rfl, h1, h⟩ := all2_c h
  obtain ⟨v2, _, rfl, h2, h⟩ := all2_c h
  cases all2_n h
  exact ⟨p, _, _, rfl, q, h1, h2⟩⟩
theorem tup3 {α β γ : Type} [Rp α] [Rp β] [Rp γ] {x : α} {y : β} {z : γ} : TupOf K [pv K x, pv K y, pv K z] (T3.mk x y z) := ⟨Nat.le_of_ble_eq_true rfl, fun I p vs h q => by
  obtain ⟨v1, _, rfl, h1, h⟩ := all2_c h
  obtain ⟨v2, _, rfl, h2, h⟩ := all2_c h
  obtain ⟨v3, _, rfl, h3, h⟩ := all2_c h
  cases all2_n h
  exact ⟨p, _, _, _, rfl, q, h1, h2, h3⟩⟩
theorem tup4 {α β γ δ : Type} [Rp α] [Rp β] [Rp γ] [Rp δ] {x : α} {y : β} {z : γ} {w : δ} : TupOf K [pv K x, pv K y, pv K z, pv K w] (T4.mk x y z w) := ⟨Nat.le_of_ble_eq_true rfl, fun I p vs h q => by
  obtain ⟨v1, _, rfl, h1, h⟩ := all2_c h
  obtain ⟨v2, _, rfl, h2, h⟩ := all2_c h
  obtain ⟨v3, _, rfl, h3, h⟩ := all2_c h
  obtain ⟨v4, _, rfl, h4, h⟩ := all2_c h
  cases all2_n h
  exact ⟨p, _, _, _, _, rfl, q, h1, h2, h3, h4⟩⟩
theorem tup5 {α β γ δ ε : Type} [Rp α] [Rp β] [Rp γ] [Rp δ] [Rp ε] {x : α} {y : β} {z : γ} {w : δ} {u : ε} : TupOf K [pv K x, pv K y, pv K z, pv K w, pv K u] (T5.mk x y z w u) := ⟨Nat.le_of_ble_eq_true rfl, fun I p vs h q => by
  obtain ⟨v1, _, rfl, h1, h⟩ := all2_c h
  obtain ⟨v2, _, rfl, h2, h⟩ := all2_c h
  obtain ⟨v3, _, rfl, h3, h⟩ := all2_c h
  obtain ⟨v4, _, rfl, h4, h⟩ := all2_c h
  obtain ⟨v5, _, rfl, h5, h⟩ := all2_c h
  cases all2_n h
  exact ⟨p, _, _, _, _, _, rfl, q, h1, h2, h3, h4, h5⟩⟩
theorem ep_tup {α : Type} [Rp α] {x : α} (h : AP ta Γ ps) (t : TupOf K ps x) : EP (tTup ta) Γ (pv K x) := fun I F M σ e d Q k => h I F M σ e d _ fun vs I1 a1 d1 r1 => by
  refine ⟨by rw [← r1.length]; exact sz2 t.1, fun p hp => ?_⟩
  obtain ⟨x1, x2, x3, x4⟩ := mk_tup (K := K) (vs := vs) d1 hp
  rw [x4]
  exact k _ _ (a1.trans x1) x2 (t.2 _ _ _ (pvs_up x1 r1) x3)
theorem em_tup {S ρ α : Type} [SH S] [Rp α] {Γ : S → List Sl} {m : Mn S ρ} {f : ρ → α} {ps : ρ → List PV} (h : AM ta Γ m ps) (t : ∀ z, TupOf K (ps z) (f z)) : EM K (tTup ta) Γ (mb m fun z => mp (f z)) := fun s I F M σ e d Q q =>
  h s I F M σ e d _ (R.sat_imp (sat_mb.mp q) fun z s1 q vs I1 M1 a1 d1 e1 r1 => by
  refine ⟨by rw [← r1.length]; exact sz2 (t z).1, fun p hp => ?_⟩
  obtain ⟨x1, x2, x3, x4⟩ := mk_tup (K := K) (vs := vs) d1 hp
  rw [x4]
  exact q _ _ _ (a1.trans x1) x2 (e1.up x1) ((t z).2 _ _ _ (pvs_up x1 r1) x3))
end

/-! ### items -/
section
variable {α : Type} [Rp α] {xs : List α} {i : Int} {x : α} {I M : Hp}
theorem rs_at {vs : List V} (h : Rs K xs I vs) (e : atI xs i = some x) : ∃ v, atI vs i = some v ∧ Rp.r K x I v := by
  obtain ⟨j, h1, h2⟩ := Option.bind_eq_some_iff.mp e
  obtain ⟨v, h3, h4⟩ := h.get h2
  exact ⟨v, Option.bind_eq_some_iff.mpr ⟨j, by rw [← h.length]; exact h1, h3⟩, h4⟩
theorem sql_ov {a : Addr} {vs : List V} (d : Dis M I) (h : SqL K I a vs) : SqL K (ov M I) a vs := sql_up (ex_ov d) h
theorem sqt_ov {a : Addr} {vs : List V} (d : Dis M I) (h : SqT K I a vs) : SqT K (ov M I) a vs := sqt_up (ex_ov d) h
theorem o_ixL (e : atI xs i = some x) : Op2 (rIxL K) (pv K xs) (pv K i) (pv K x) := fun I M u w Q d ⟨a, vs, h1, h2, h3⟩ hy k => by
  obtain ⟨v, q1, q2⟩ := rs_at h3 e
  exact ⟨a, vs, i, v, h1, hy, SqL.of (ex_ov d _ _ h2), q1, k v I (Ex.refl I) d q2⟩
theorem o_ixT (e : atI xs i = some x) : Op2 (rIxT K) (pv K (Tu.mk xs)) (pv K i) (pv K x) := fun I M u w Q d ⟨a, vs, h1, h2, h3⟩ hy k => by
  obtain ⟨v, q1, q2⟩ := rs_at h3 e
  exact ⟨a, vs, i, v, h1, hy, sqt_ov d h2, q1, k v I (Ex.refl I) d q2⟩
section
variable {S : Type} [SH S] {Γ : S → List Sl} {ta tb : TE}
theorem em_ixL {m1 : Mn S (List α)} {m2 : Mn S Int} (ha : EM K ta Γ m1) (hb : EM K tb Γ m2) : EM K (tOp (rIxL K) ta tb) Γ (mb m1 fun xs => mb m2 fun i => mo (atI xs i)) := fun s I F M σ e d Q q =>
  ha s I F M σ e d _ (R.sat_imp (sat_mb.mp q) fun x s1 q v1 I1 M1 a1 d1 e1 r1 => hb s1 I1 F M1 σ e1 d1 _ (R.sat_imp (sat_mb.mp q) fun y s2 q v2 I2 M2 a2 d2 e2 r2 => by
    obtain ⟨z, hz, q⟩ := sat_mo.mp q
    exact o_ixL hz I2 M2 v1 v2 Q d2 (Rp.up a2 r1) r2 fun v I3 a3 d3 r3 => q v I3 M2 ((a1.trans a2).trans a3) d3 (e2.up a3) r3))
theorem em_ixLr {m1 : Mn S (List α)} (ha : EM K ta Γ m1) (hb : ∀ s, EP tb (Γ s) (pv K i)) : EM K (tOp (rIxL K) ta tb) Γ (mb m1 fun xs => mo (atI xs i)) := fun s I F M σ e d Q q =>
  ha s I F M σ e d _ (R.sat_imp (sat_mb.mp q) fun x s1 q v1 I1 M1 a1 d1 e1 r1 => hb s1 I1 F M1 σ e1 d1 _ fun v2 I2 a2 d2 r2 => by
    obtain ⟨z, hz, q⟩ := sat_mo.mp q
    exact o_ixL hz I2 M1 v1 v2 Q d2 (Rp.up a2 r1) r2 fun v I3 a3 d3 r3 => q v I3 M1 ((a1.trans a2).trans a3) d3 (e1.up (a2.trans a3)) r3)
theorem em_ixLp (ha : ∀ s, EP ta (Γ s) (pv K xs)) (hb : ∀ s, EP tb (Γ s) (pv K i)) : EM K (tOp (rIxL K) ta tb) Γ (mo (atI xs i)) := fun s I F M σ e d Q q => by
  obtain ⟨z, hz, q⟩ := sat_mo.mp q
  exact ep_op (ha s) (hb s) (o_ixL hz) I F M σ e d Q fun v I3 a3 d3 r3 => q v I3 M a3 d3 (e.up a3) r3
theorem em_ixLl {m2 : Mn S Int} (ha : ∀ s, EP ta (Γ s) (pv K xs)) (hb : EM K tb Γ m2) : EM K (tOp (rIxL K) ta tb) Γ (mb m2 fun i => mo (atI xs i)) := fun s I F M σ e d Q q =>
  ha s I F M σ e d _ fun v1 I1 a1 d1 r1 => hb s I1 F M σ (e.up a1) d1 _ (R.sat_imp (sat_mb.mp q) fun y s2 q v2 I2 M2 a2 d2 e2 r2 => by
    obtain ⟨z, hz, q⟩ := sat_mo.mp q
    exact o_ixL hz I2 M2 v1 v2 Q d2 (Rp.up a2 r1) r2 fun v I3 a3 d3 r3 => q v I3 M2 ((a1.trans a2).trans a3) d3 (e2.up a3) r3)
theorem em_ixTr {m1 : Mn S (Tu α)} (ha : EM K ta Γ m1) (hb : ∀ s, EP tb (Γ s) (pv K i)) : EM K (tOp (rIxT K) ta tb) Γ (mb m1 fun xs => mo (atI xs.l i)) := fun s I F M σ e d Q q =>
  ha s I F M σ e d _ (R.sat_imp (sat_mb.mp q) fun x s1 q v1 I1 M1 a1 d1 e1 r1 => hb s1 I1 F M1 σ e1 d1 _ fun v2 I2 a2 d2 r2 => by
    obtain ⟨z, hz, q⟩ := sat_mo.mp q
    exact o_ixT hz I2 M1 v1 v2 Q d2 (Rp.up a2 r1) r2 fun v I3 a3 d3 r3 => q v I3 M1 ((a1.trans a2).trans a3) d3 (e1.up (a2.trans a3)) r3)
theorem em_ixTp {t : Tu α} (ha : ∀ s, EP ta (Γ s) (pv K t)) (hb : ∀ s, EP tb (Γ s) (pv K i)) : EM K (tOp (rIxT K) ta tb) Γ (mo (atI t.l i)) := fun s I F M σ e d Q q => by
  obtain ⟨z, hz, q⟩ := sat_mo.mp q
  exact ep_op (ha s) (hb s) (o_ixT (xs := t.l) hz) I F M σ e d Q fun v I3 a3 d3 r3 => q v I3 M a3 d3 (e.up a3) r3
end
/-- a part of a written tuple -/
theorem o_pr {p w : PV} {i : Int} (h : ∀ I v, p.r I v → ∃ a vs u, v = V.ref a ∧ SqT K I a vs ∧ atI vs i = some u ∧ w.r I u) : Op2 (rIxT K) p (pv K i) w := fun I M x y Q d hx hy k => by
  obtain ⟨a, vs, u, h1, h2, h3, h4⟩ := h I x hx
  exact ⟨a, vs, i, u, h1, hy, sqt_ov d h2, h3, k u I (Ex.refl I) d h4⟩
theorem pr2_0 {α β : Type} [Rp α] [Rp β] {x : α × β} : Op2 (rIxT K) (pv K x) (pv K (0 : Int)) (pv K x.1) := o_pr fun I v ⟨a, v1, v2, h1, h2, h3, h4⟩ => ⟨a, _, v1, h1, h2, rfl, h3⟩
theorem pr2_1 {α β : Type} [Rp α] [Rp β] {x : α × β} : Op2 (rIxT K) (pv K x) (pv K (1 : Int)) (pv K x.2) := o_pr fun I v ⟨a, v1, v2, h1, h2, h3, h4⟩ => ⟨a, _, v2, h1, h2, rfl, h4⟩
theorem pr3_0 {α β γ : Type} [Rp α] [Rp β] [Rp γ] {x : T3 α β γ} : Op2 (rIxT K) (pv K x) (pv K (0 : Int)) (pv K x.a) := o_pr fun I v ⟨a, v1, v2, v3, h1, h2, h3, h4, h5⟩ => ⟨a, _, v1, h1, h2, rfl, h3⟩
theorem pr3_1 {α β γ : Type} [Rp α] [Rp β] [Rp γ] {x : T3 α β γ} : Op2 (rIxT K) (pv K x) (pv K (1 : Int)) (pv K x.b) := o_pr fun I v ⟨a, v1, v2, v3, h1, h2, h3, h4, h5⟩ => ⟨a, _, v2, h1, h2, rfl, h4⟩
theorem pr3_2 {α β γ : Type} [Rp α] [Rp β] [Rp γ] {x : T3 α β γ} : Op2 (rIxT K) (pv K x) (pv K (2 : Int)) (pv K x.c) := o_pr fun I v ⟨a, v1, v2, v3, h1, h2, h3, h4, h5⟩ => ⟨a, _, v3, h1, h2, rfl, h5⟩
/-- an item of an owned list of written values -/
theorem ep_hl {Γ : List Sl} {j : Nat} {vs : List V} {P : OP} {α : Type} [Rp α] {x : α} {tb : TE} {i : Int} {u : V} (hj : Γ[j]? = some (.ow P)) (hP : ∀ I a M, P.r I a M → M = sing a (.lst vs)) (hb : EP tb Γ (pv K i)) (e : atI vs i = some u) (hx : ∀ H, Rp.r K x H u) : EP (tOp (rIxL K) (tVar j) tb) Γ (pv K x) := fun I F M σ e1 d Q k => by
  obtain ⟨a, Ma, M', h1, h2, h3, h4⟩ := e1.foc hj
  refine ⟨_, h1, ?_⟩
  refine hb I F M σ e1 d _ fun v I1 a1 d1 r1 => ?_
  have em := hP _ _ _ h2
  refine ⟨a, vs, i, u, rfl, r1, SqL.of ?_, e, k u I1 a1 d1 (hx I1)⟩
  rw [h4, em]
  exact ov_l (ov_l sing_same)
theorem hl_at {vs : List V} {v : V} : ∀ I a M, ((hl vs).at v).r I a M → M = sing a (.lst vs) := fun _ _ _ h => h.2
theorem hl_self {vs : List V} : ∀ I a M, (hl vs).r I a M → M = sing a (.lst vs) := fun _ _ _ h => h
end
end
end Mir

/-! Mir4: promises by mirrors, calls; statements; loops; comprehensions -/
namespace Mir
open PySem L2

/-! ### more of slots -/
section
variable {I F N : Hp} {σ : L2.St} {Γ : List Sl}
theorem EnvOk.ims {ps : List PV} {vs : List V} : All2 (fun (p : PV) v => p.r I v) ps vs → EnvOk I F F (vs.map some) (ps.map Sl.im)
  | .nil => .nil
  | .cons h t => .im h (EnvOk.ims t)
theorem EnvOk.of_ims : ∀ {ps : List PV} {N : Hp} {σ : L2.St}, EnvOk I F N σ (ps.map Sl.im) → N = F
  | [], _, _, .nil => rfl
  | _ :: _, _, _, .im _ h => EnvOk.of_ims h
theorem EnvOk.nos : ∀ {k : Nat} {N : Hp} {σ : L2.St}, EnvOk I F N σ (List.replicate k .no) → N = F
  | 0, _, _, .nil => rfl
  | _ + 1, _, _, .no _ h => EnvOk.nos h
theorem EnvOk.app : ∀ {N : Hp} {σ : L2.St} {Γ : List Sl}, EnvOk I F N σ Γ → ∀ k : Nat, EnvOk I F N (σ ++ List.replicate k none) (Γ ++ List.replicate k .no)
  | _, _, _, .nil, 0 => .nil
  | _, _, _, .nil, k + 1 => .no none (EnvOk.app .nil k)
  | _, _, _, .no o h, k => .no o (EnvOk.app h k)
  | _, _, _, .im q h, k => .im q (EnvOk.app h k)
  | _, _, _, .ow q d h, k => .ow q d (EnvOk.app h k)
/-- more is owned besides -/
theorem EnvOk.frame {G : Hp} : ∀ {N : Hp} {σ : L2.St} {Γ : List Sl}, EnvOk I F N σ Γ → Dis G N → EnvOk I (ov G F) (ov G N) σ Γ
  | _, _, _, .nil, _ => .nil
  | _, _, _, .no o h, d => .no o (EnvOk.frame h d)
  | _, _, _, .im q h, d => .im q (EnvOk.frame h d)
  | _, _, _, .ow (Ma := Ma) (M := N) q d' h, d => by
    obtain ⟨d1, d2⟩ := dis_r_ov d
    have e : ov G (ov Ma N) = ov Ma (ov G N) := by rw [ov_assoc, ov_assoc, ov_comm d1]
    rw [e]
    exact .ow q (dis_ov_r d1.symm d') (EnvOk.frame h d2)
theorem EnvOk.unframe {G : Hp} (dF : Dis G F) : ∀ {N : Hp} {σ : L2.St} {Γ : List Sl}, EnvOk I (ov G F) N σ Γ → ∃ N', N = ov G N' ∧ Dis G N' ∧ EnvOk I F N' σ Γ
  | _, _, _, .nil => ⟨F, rfl, dF, .nil⟩
  | _, _, _, .no o h => by
    obtain ⟨N', h1, h2, h3⟩ := EnvOk.unframe dF h
    exact ⟨N', h1, h2, .no o h3⟩
  | _, _, _, .im q h => by
    obtain ⟨N', h1, h2, h3⟩ := EnvOk.unframe dF h
    exact ⟨N', h1, h2, .im q h3⟩
  | _, _, _, .ow (Ma := Ma) q d h => by
    obtain ⟨N', h1, h2, h3⟩ := EnvOk.unframe dF h
    subst h1
    obtain ⟨d1, d2⟩ := dis_r_ov d
    exact ⟨ov Ma N', by rw [ov_assoc, ov_assoc, ov_comm d1], dis_ov_r d1.symm h2, .ow q d2 h3⟩
/-- what the slots own apart from the rest -/
theorem EnvOk.parts : ∀ {N : Hp} {σ : L2.St} {Γ : List Sl}, EnvOk I F N σ Γ → ∃ P, N = ov P F ∧ Dis P F ∧ ∀ I' F', Ex I I' → Dis P F' → EnvOk I' F' (ov P F') σ Γ
  | _, _, _, .nil => ⟨emp, ov_empl.symm, dis_emp, fun I' F' _ _ => by rw [ov_empl]; exact .nil⟩
  | _, _, _, .no o h => let ⟨P, h1, h2, h3⟩ := EnvOk.parts h; ⟨P, h1, h2, fun I' F' x d => .no o (h3 I' F' x d)⟩
  | _, _, _, .im (p := p) q h => let ⟨P, h1, h2, h3⟩ := EnvOk.parts h; ⟨P, h1, h2, fun I' F' x d => .im (p := p) (p.up x q) (h3 I' F' x d)⟩
  | _, _, _, .ow (p := p) (Ma := Ma) q d h => by
    obtain ⟨P, h1, h2, h3⟩ := EnvOk.parts h
    subst h1
    obtain ⟨d1, d2⟩ := dis_r_ov d
    refine ⟨ov Ma P, by rw [ov_assoc], dis_ov d2 h2, fun I' F' x d' => ?_⟩
    obtain ⟨d3, d4⟩ := dis_ov_l d'
    rw [← ov_assoc]
    exact .ow (p.up x q) (dis_ov_r d1 d3) (h3 I' F' x d4)
end
section
variable {S : Type} [SH S] {s : S} {I F N : Hp} {σ : L2.St} {Γ : List Sl}
theorem EnvG.app (h : EnvG s I F N σ Γ) (k : Nat) : EnvG s I F N (σ ++ List.replicate k none) (Γ ++ List.replicate k .no) := let ⟨G, h1, h2, e⟩ := h; ⟨G, h1, h2, e.app k⟩
theorem ov_swap {A B C : Hp} (d : Dis A B) : ov A (ov B C) = ov B (ov A C) := by rw [ov_assoc, ov_assoc, ov_comm d]
theorem EnvOk.sub' : ∀ {N : Hp} {σ : L2.St} {Γ : List Sl}, EnvOk I F N σ Γ → ∀ {a : Addr}, N a = none → F a = none
  | _, _, _, .nil, a, h => h
  | _, _, _, .no o e, a, h => EnvOk.sub' e h
  | _, _, _, .im q e, a, h => EnvOk.sub' e h
  | _, _, _, .ow q d e, a, h => EnvOk.sub' e (ov_none h).2
theorem EnvOk.dis {G : Hp} (e : EnvOk I F N σ Γ) (d : Dis G N) : Dis G F := fun a => by
  rcases d a with h | h
  · exact .inl h
  · exact .inr (e.sub' h)
theorem EnvG.frame {G : Hp} (h : EnvG s I F N σ Γ) (d : Dis G N) : EnvG s I (ov G F) (ov G N) σ Γ := by
  obtain ⟨G0, h1, h2, e⟩ := h
  have d0 := e.dis d
  obtain ⟨y1, y2⟩ := dis_r_ov d0
  refine ⟨G0, h1, dis_ov_r y1.symm h2, ?_⟩
  rw [ov_swap y1.symm]
  exact e.frame d
theorem EnvG.unframe {G : Hp} (dF : Dis G F) (h : EnvG s I (ov G F) N σ Γ) : ∃ N', N = ov G N' ∧ Dis G N' ∧ EnvG s I F N' σ Γ := by
  obtain ⟨G0, h1, h2, e⟩ := h
  obtain ⟨y1, y2⟩ := dis_r_ov h2
  rw [ov_swap y1] at e
  obtain ⟨N', x1, x2, x3⟩ := e.unframe (dis_ov_r y1.symm dF)
  exact ⟨N', x1, x2, G0, h1, y2, x3⟩
end

/-! ### promises -/
/-- a parameter: a value, or something owned, by the state -/
inductive Ar (S : Type) where
  | im (p : PV)
  | ow (P : S → OP)
def Ar.sl {S : Type} (s : S) : Ar S → Sl
  | .im p => .im p
  | .ow P => .ow (P s)
/-- how a value is handed back: by what is known of it | as something owned -/
abbrev RetT (ρ : Type) := ρ → V → Hp → Hp → Hp → Prop
def rIm (K : PySem.W.Frag) {ρ : Type} [Rp ρ] : RetT ρ := fun x v I N H => Dis N I ∧ H = ov N I ∧ Rp.r K x I v
def rOw {ρ : Type} (P : ρ → OP) : RetT ρ := fun x v I N H => ∃ a Ma, v = V.ref a ∧ Dis Ma N ∧ Dis (ov Ma N) I ∧ H = ov (ov Ma N) I ∧ (P x).r I a Ma
/-- called with such arguments it does what the mirror does -/
def Prom {S ρ ι : Type} [SH S] (Ret : RetT ρ) (As : ι → List (Ar S)) (m : ι → Mn S ρ) : Sp := fun vs H Q _ => ∃ (i : ι) (s : S) (I F N : Hp), H = ov N I ∧ Dis N I ∧ EnvG s I F N (vs.map some) ((As i).map (Ar.sl s)) ∧
  (m i s).sat fun x s' => ∀ v H' I' N', Ex I I' → EnvG s' I' F N' (vs.map some) ((As i).map (Ar.sl s')) → Ret x v I' N' H' → Q v H'
theorem prom_len {S ρ ι : Type} [SH S] {Ret : RetT ρ} {As : ι → List (Ar S)} {m : ι → Mn S ρ} {n : Nat} (h : ∀ i, (As i).length = n) : ∀ vs H Q E, Prom Ret As m vs H Q E → vs.length = n := fun vs H Q E ⟨i, s, I, F, N, _, _, e, _⟩ => by
  have l := e.len
  rw [List.length_map, List.length_map, h i] at l
  exact l

section
variable {K : PySem.W.Frag}
/-! ### calls -/
section
variable {S S' ρ ι ζ α : Type} [SH S] {Γ : S → List Sl} {ta tk : TA} {E : XK} {i : ι} {ps : List PV}
theorem call_all {Ret : RetT ρ} {As : ι → List (Ar Unit)} {m : ι → Mn Unit ρ} {I N : Hp} {vs : List V} {Q : VK} (d : Dis N I) (r : All2 (fun (p : PV) v => p.r I v) ps vs) (hA : (As i).map (Ar.sl ()) = ps.map Sl.im)
    (q : (m i ()).sat fun x _ => ∀ v H' I', Ex I I' → Ret x v I' N H' → Q v H') : Prom Ret As m vs (ov N I) Q E := by
  refine ⟨i, (), I, N, N, rfl, d, ?_, R.sat_imp q fun x s' q v H' I' N' a1 e1 r1 => ?_⟩
  · rw [hA]; exact EnvG.of (EnvOk.ims r)
  · cases s'
    rw [hA] at e1
    cases EnvOk.of_ims e1.unit
    exact q v H' I' a1 r1
/-- what an expression hands back: a value, or something owned -/
def EO {S ρ : Type} [SH S] (te : TE) (Γ : S → List Sl) (m : Mn S ρ) (Ret : RetT ρ) : Prop := ∀ (s : S) (I F N : Hp) (σ : L2.St), EnvG s I F N σ (Γ s) → Dis N I → ∀ Q : VK,
  (m s).sat (fun x s' => ∀ v H' I' N', Ex I I' → EnvG s' I' F N' σ (Γ s') → Ret x v I' N' H' → Q v H') → te σ (ov N I) Q
theorem em_of_eo [Rp α] {te : TE} {m : Mn S α} (h : EO te Γ m (rIm K)) : EM K te Γ m := fun s I F N σ e d Q q => h s I F N σ e d Q (R.sat_imp q fun x s' q v H' I' N' a1 e1 ⟨d1, h1, r1⟩ => by
  rw [h1]
  exact q v I' N' a1 d1 e1 r1)
/-- all arguments known -/
theorem eo_call0 {Ret : RetT ρ} {As : ι → List (Ar Unit)} {m : ι → Mn Unit ρ} (h : ∀ s, AP ta (Γ s) ps) (hA : (As i).map (Ar.sl ()) = ps.map Sl.im) : EO (tCall (Prom Ret As m) [] E ta) Γ (mu (m i)) Ret := fun s I F N σ e d Q q =>
  h s I F N σ e d _ fun vs I1 a1 d1 r1 => by
    show Prom Ret As m (vs ++ []) _ _ _
    rw [List.append_nil]
    exact call_all d1 r1 hA (R.sat_imp (sat_mu.mp q) fun x _ q v H' I' a2 r2 => q v H' I' N (a1.trans a2) (e.up (a1.trans a2)) r2)
theorem eo_call0M {Ret : RetT ρ} {As : ι → List (Ar Unit)} {m : ι → Mn Unit ρ} {mm : Mn S ζ} {psf : ζ → List PV} {f : ζ → ι} (h : AM ta Γ mm psf) (hA : ∀ z, (As (f z)).map (Ar.sl ()) = (psf z).map Sl.im) : EO (tCall (Prom Ret As m) [] E ta) Γ (mb mm fun z => mu (m (f z))) Ret := fun s I F N σ e d Q q =>
  h s I F N σ e d _ (R.sat_imp (sat_mb.mp q) fun z s1 q vs I1 N1 a1 d1 e1 r1 => by
    show Prom Ret As m (vs ++ []) _ _ _
    rw [List.append_nil]
    exact call_all d1 r1 (hA z) (R.sat_imp (sat_mu.mp q) fun x _ q v H' I' a2 r2 => q v H' I' N1 (a1.trans a2) (e1.up a2) r2))
/-- by names alone: gV puts the values in the parameters' order -/
theorem eo_callK {Ret : RetT ρ} {As : ι → List (Ar Unit)} {m : ι → Mn Unit ρ} {gV : List V → List V → List V} {qs : List PV} (h : ∀ s, AP tk (Γ s) ps) (hg : ∀ I vs, All2 (fun (p : PV) v => p.r I v) ps vs → All2 (fun (p : PV) v => p.r I v) qs (gV [] vs)) (hA : (As i).map (Ar.sl ()) = qs.map Sl.im) :
    EO (tCallK (Prom Ret As m) gV E tNil tk) Γ (mu (m i)) Ret := fun s I F N σ e d Q q =>
  h s I F N σ e d _ fun vs I1 a1 d1 r1 => call_all d1 (hg _ _ r1) hA (R.sat_imp (sat_mu.mp q) fun x _ q v H' I' a2 r2 => q v H' I' N (a1.trans a2) (e.up (a1.trans a2)) r2)
theorem eo_callKM {Ret : RetT ρ} {As : ι → List (Ar Unit)} {m : ι → Mn Unit ρ} {gV : List V → List V → List V} {mm : Mn S ζ} {psf qsf : ζ → List PV} {f : ζ → ι} (h : AM tk Γ mm psf) (hg : ∀ z I vs, All2 (fun (p : PV) v => p.r I v) (psf z) vs → All2 (fun (p : PV) v => p.r I v) (qsf z) (gV [] vs)) (hA : ∀ z, (As (f z)).map (Ar.sl ()) = (qsf z).map Sl.im) :
    EO (tCallK (Prom Ret As m) gV E tNil tk) Γ (mb mm fun z => mu (m (f z))) Ret := fun s I F N σ e d Q q =>
  h s I F N σ e d _ (R.sat_imp (sat_mb.mp q) fun z s1 q vs I1 N1 a1 d1 e1 r1 => call_all d1 (hg z _ _ r1) (hA z) (R.sat_imp (sat_mu.mp q) fun x _ q v H' I' a2 r2 => q v H' I' N1 (a1.trans a2) (e1.up a2) r2))
/-- a call in the caller's own state -/
theorem call_st {S ρ ι : Type} [SH S] {E : XK} {Ret : RetT ρ} {As : ι → List (Ar S)} {m : ι → Mn S ρ} {i : ι} {s : S} {I F N : Hp} {σ : L2.St} {Γ : List Sl} {ps : List PV} {vs : List V} {Q : VK} (e : EnvG s I F N σ Γ) (d : Dis N I) (r : All2 (fun (p : PV) v => p.r I v) ps vs) (hA : ∀ s', (As i).map (Ar.sl s') = ps.map Sl.im)
    (q : (m i s).sat fun x s' => ∀ v H' I' N', Ex I I' → EnvG s' I' F N' σ Γ → Ret x v I' N' H' → Q v H') : Prom Ret As m vs (ov N I) Q E := by
  obtain ⟨G, g1, g2, e⟩ := e
  obtain ⟨P, p1, p2, p3⟩ := e.parts
  obtain ⟨y1, y2⟩ := dis_r_ov p2
  have eN : N = ov G (ov P F) := by rw [p1, ov_swap y1]
  refine ⟨i, s, I, ov P F, N, rfl, d, ⟨G, g1, dis_ov_r y1.symm g2, ?_⟩, R.sat_imp q fun x s' q v H' I' N' a1 e1 r1 => ?_⟩
  · rw [hA, ← eN]
    exact EnvOk.ims r
  · obtain ⟨G', g1', g2', e'⟩ := e1
    rw [hA] at e'
    cases EnvOk.of_ims e'
    obtain ⟨z1, z2⟩ := dis_r_ov g2'
    refine q v H' I' _ a1 ⟨G', g1', z2, ?_⟩ r1
    rw [ov_swap z1]
    exact p3 I' _ a1 (dis_ov_r z1.symm y2)
theorem eo_callS {E : XK} {Ret : RetT ρ} {As : ι → List (Ar S)} {m : ι → Mn S ρ} {mm : Mn S ζ} {psf : ζ → List PV} {f : ζ → ι} (h : AM ta Γ mm psf) (hA : ∀ z s, (As (f z)).map (Ar.sl s) = (psf z).map Sl.im) (hΓ : ∀ s s', Γ s = Γ s') : EO (tCall (Prom Ret As m) [] E ta) Γ (mb mm fun z => m (f z)) Ret := fun s I F N σ e d Q q =>
  h s I F N σ e d _ (R.sat_imp (sat_mb.mp q) fun z s1 q vs I1 N1 a1 d1 e1 r1 => by
    show Prom Ret As m (vs ++ []) _ _ _
    rw [List.append_nil]
    exact call_st e1 d1 r1 (hA z) (R.sat_imp q fun x s2 q v H' I' N' a2 e2 r2 => q v H' I' N' (a1.trans a2) (by rw [hΓ s2 s1]; exact e2) r2))
theorem eo_callKS {E : XK} {Ret : RetT ρ} {As : ι → List (Ar S)} {m : ι → Mn S ρ} {gV : List V → List V → List V} {mm : Mn S ζ} {psf qsf : ζ → List PV} {f : ζ → ι} (h : AM tk Γ mm psf) (hg : ∀ z I vs, All2 (fun (p : PV) v => p.r I v) (psf z) vs → All2 (fun (p : PV) v => p.r I v) (qsf z) (gV [] vs)) (hA : ∀ z s, (As (f z)).map (Ar.sl s) = (qsf z).map Sl.im) (hΓ : ∀ s s', Γ s = Γ s') :
    EO (tCallK (Prom Ret As m) gV E tNil tk) Γ (mb mm fun z => m (f z)) Ret := fun s I F N σ e d Q q =>
  h s I F N σ e d _ (R.sat_imp (sat_mb.mp q) fun z s1 q vs I1 N1 a1 d1 e1 r1 => call_st e1 d1 (hg z _ _ r1) (hA z) (R.sat_imp q fun x s2 q v H' I' N' a2 e2 r2 => q v H' I' N' (a1.trans a2) (by rw [hΓ s2 s1]; exact e2) r2))
end

/-! ### statements -/
/-- a statement that goes on, behind it x and the slots by x and the state -/
def RP {S τ : Type} [SH S] (t : TS) (Γ : S → List Sl) (m : Mn S τ) (Γ' : τ → S → List Sl) : Prop := ∀ (s : S) (I F N : Hp) (σ : L2.St), EnvG s I F N σ (Γ s) → Dis N I → ∀ D : Ends,
  (m s).sat (fun x s' => ∀ I' N' σ', Ex I I' → Dis N' I' → EnvG s' I' F N' σ' (Γ' x s') → D.nx σ' (ov N' I')) → t D σ (ov N I)
/-- statements that end in a return -/
def RT {S ρ : Type} [SH S] (Ret : RetT ρ) (t : TS) (Γ : S → List Sl) (m : Mn S ρ) (Γr : S → List Sl) : Prop := ∀ (s : S) (I F N : Hp) (σ : L2.St), EnvG s I F N σ (Γ s) → Dis N I → ∀ D : Ends,
  (m s).sat (fun x s' => ∀ v H' I' N' σ', Ex I I' → EnvG s' I' F N' σ' (Γr s') → Ret x v I' N' H' → D.rt v H') → t D σ (ov N I)
/-- .. or at the def's end -/
def RN {S ρ : Type} [SH S] (Ret : RetT ρ) (t : TS) (Γ : S → List Sl) (m : Mn S ρ) (Γr : S → List Sl) : Prop := ∀ (s : S) (I F N : Hp) (σ : L2.St), EnvG s I F N σ (Γ s) → Dis N I → ∀ D : Ends, (∀ σ H, D.rt .non H → D.nx σ H) →
  (m s).sat (fun x s' => ∀ v H' I' N' σ', Ex I I' → EnvG s' I' F N' σ' (Γr s') → Ret x v I' N' H' → D.rt v H') → t D σ (ov N I)
/-- ways out of a statement -/
inductive Ct (ρ τ β : Type) where
  | rt (x : ρ)
  | nx (t : τ)
  | br (b : β)
def CtQ {S ρ τ β : Type} [SH S] (Ret : RetT ρ) (D : Ends) (F : Hp) (Γr : S → List Sl) (Γn : τ → S → List Sl) (Γb : β → S → List Sl) (I : Hp) (c : Ct ρ τ β) (s' : S) : Prop :=
  match c with
    | .rt x => ∀ v H' I' N' σ', Ex I I' → EnvG s' I' F N' σ' (Γr s') → Ret x v I' N' H' → D.rt v H'
    | .nx x => ∀ I' N' σ', Ex I I' → Dis N' I' → EnvG s' I' F N' σ' (Γn x s') → D.nx σ' (ov N' I')
    | .br x => ∀ I' N' σ', Ex I I' → Dis N' I' → EnvG s' I' F N' σ' (Γb x s') → D.bk σ' (ov N' I')
def CxQ {S ρ τ β : Type} [SH S] (Ret : RetT ρ) (D : Ends) (F : Hp) (Γr : S → List Sl) (Γb : β → S → List Sl) (I : Hp) (c : Ct ρ τ β) (s' : S) : Prop :=
  match c with
    | .rt x => ∀ v H' I' N' σ', Ex I I' → EnvG s' I' F N' σ' (Γr s') → Ret x v I' N' H' → D.rt v H'
    | .nx x => True
    | .br x => ∀ I' N' σ', Ex I I' → Dis N' I' → EnvG s' I' F N' σ' (Γb x s') → D.bk σ' (ov N' I')
def RC {S ρ τ β : Type} [SH S] (Ret : RetT ρ) (t : TS) (Γ : S → List Sl) (m : Mn S (Ct ρ τ β)) (Γr : S → List Sl) (Γn : τ → S → List Sl) (Γb : β → S → List Sl) : Prop := ∀ (s : S) (I F N : Hp) (σ : L2.St), EnvG s I F N σ (Γ s) → Dis N I → ∀ D : Ends,
  (m s).sat (CtQ Ret D F Γr Γn Γb I) → t D σ (ov N I)
/-- .. that doesn't go on behind itself -/
def RX {S ρ τ β : Type} [SH S] (Ret : RetT ρ) (t : TS) (Γ : S → List Sl) (m : Mn S (Ct ρ τ β)) (Γr : S → List Sl) (Γb : β → S → List Sl) : Prop := ∀ (s : S) (I F N : Hp) (σ : L2.St), EnvG s I F N σ (Γ s) → Dis N I → ∀ D : Ends,
  (m s).sat (CxQ Ret D F Γr Γb I) → t D σ (ov N I)
section
variable {S ρ τ τ' β α : Type} [SH S] {Ret : RetT ρ} [Rp α] {t t1 t2 : TS} {te : TE} {tc : TT} {Γ Γr Γ1 : S → List Sl} {Γ' Γ2 : τ → S → List Sl} {Γt : τ' → S → List Sl}
theorem rn_of {m : Mn S ρ} (h : RT Ret t Γ m Γr) : RN Ret t Γ m Γr := fun s I F N σ e d D _ q => h s I F N σ e d D q
/-- forgetting ahead -/
theorem rp_pre {m : Mn S τ} (w : ∀ s, Wk (Γ s) (Γ1 s)) (h : RP t Γ1 m Γ') : RP t Γ m Γ' := fun s I F N σ e d D q => by
  obtain ⟨I1, N1, x1, x2, x3, x4⟩ := e.wk (w s) d
  rw [← x3]
  exact h s I1 F N1 σ x4 x2 D (R.sat_imp q fun x s' q I' N' σ' a1 d1 e1 => q I' N' σ' (x1.trans a1) d1 e1)
theorem rt_pre {m : Mn S ρ} (w : ∀ s, Wk (Γ s) (Γ1 s)) (h : RT Ret t Γ1 m Γr) : RT Ret t Γ m Γr := fun s I F N σ e d D q => by
  obtain ⟨I1, N1, x1, x2, x3, x4⟩ := e.wk (w s) d
  rw [← x3]
  exact h s I1 F N1 σ x4 x2 D (R.sat_imp q fun x s' q v H' I' N' σ' a1 e1 r1 => q v H' I' N' σ' (x1.trans a1) e1 r1)
theorem rn_pre {m : Mn S ρ} (w : ∀ s, Wk (Γ s) (Γ1 s)) (h : RN Ret t Γ1 m Γr) : RN Ret t Γ m Γr := fun s I F N σ e d D hn q => by
  obtain ⟨I1, N1, x1, x2, x3, x4⟩ := e.wk (w s) d
  rw [← x3]
  exact h s I1 F N1 σ x4 x2 D hn (R.sat_imp q fun x s' q v H' I' N' σ' a1 e1 r1 => q v H' I' N' σ' (x1.trans a1) e1 r1)
/-- forgetting behind -/
theorem rp_post {m : Mn S τ} {f : τ → τ'} (h : RP t Γ m Γ') (w : ∀ x s, Wk (Γ' x s) (Γt (f x) s)) : RP t Γ (mb m fun x => mp (f x)) Γt := fun s I F N σ e d D q =>
  h s I F N σ e d D (R.sat_imp (sat_mb.mp q) fun x s' q I' N' σ' a1 d1 e1 => by
    obtain ⟨I1, N1, x1, x2, x3, x4⟩ := e1.wk (w x s') d1
    rw [← x3]
    exact q I1 N1 σ' (a1.trans x1) x2 x4)
theorem rp_next {x : τ} (w : ∀ s, Wk (Γ s) (Γ' x s)) : RP tNext Γ (mp x) Γ' := fun s I F N σ e d D q => by
  obtain ⟨I1, N1, x1, x2, x3, x4⟩ := e.wk (w s) d
  show D.nx σ (ov N I)
  rw [← x3]
  exact q I1 N1 σ x1 x2 x4
theorem rp_never : RP (τ := τ) tNever Γ mbad Γ' := fun s I F N σ e d D q => q
theorem rt_never : RT Ret tNever Γ (mbad : Mn S ρ) Γr := fun s I F N σ e d D q => q
theorem rc_never {Γb : β → S → List Sl} : RC Ret (ρ := ρ) (τ := τ) (β := β) tNever Γ mbad Γr Γ' Γb := fun s I F N σ e d D q => q
theorem rx_never {Γb : β → S → List Sl} : RX Ret (ρ := ρ) (τ := τ) (β := β) tNever Γ mbad Γr Γb := fun s I F N σ e d D q => q
theorem rt_ret {m : Mn S α} (h : EM K te Γ m) (w : ∀ s, Wk (Γ s) (Γr s)) : RT (rIm K) (tRet te) Γ m Γr := fun s I F N σ e d D q =>
  h s I F N σ e d _ (R.sat_imp q fun x s' q v I' N' a1 d1 e1 r1 => by
    obtain ⟨I1, N1, x1, x2, x3, x4⟩ := e1.wk (w s') d1
    exact q v _ I1 N1 σ (a1.trans x1) x4 ⟨x2, x3.symm, Rp.up x1 r1⟩)
/-- something owned is handed on -/
theorem rt_reto {m : Mn S ρ} {P : ρ → OP} (h : EO te Γ m (rOw P)) (w : ∀ s, Wk (Γ s) (Γr s)) : RT (rOw P) (tRet te) Γ m Γr := fun s I F N σ e d D q =>
  h s I F N σ e d _ (R.sat_imp q fun x s' q v H' I' N' a1 e1 ⟨a, Ma, h1, h2, h3, h4, h5⟩ => by
    obtain ⟨y1, y2⟩ := dis_ov_l h3
    obtain ⟨I1, N1, x1, x2, x3, x4⟩ := e1.wk (w s') y2
    have z := dis_ov_r h2 y1
    rw [← x3] at z
    obtain ⟨z1, z2⟩ := dis_r_ov z
    refine q v H' I1 N1 σ (a1.trans x1) x4 ⟨a, Ma, h1, z1, dis_ov z2 x2, ?_, (P x).up x1 h5⟩
    rw [h4, ← ov_assoc, ← ov_assoc, x3])
/-- what a slot owns is handed on -/
theorem rt_retv {i : Nat} {P : S → OP} {f : S → ρ} {Pρ : ρ → OP} (hi : ∀ s, (Γ s)[i]? = some (.ow (P s))) (hP : ∀ s I a Ma, (P s).r I a Ma → (Pρ (f s)).r I a Ma) (w : ∀ s, Wk ((Γ s).set i .no) (Γr s)) : RT (rOw Pρ) (tRet (tVar i)) Γ (mg f) Γr := fun s I F N σ e d D q => by
  obtain ⟨a, Ma, M', h1, h2, h3, h4, h5, h6, h7⟩ := e.foc (hi s)
  subst h4
  refine ⟨_, h1, ?_⟩
  obtain ⟨y1, y2⟩ := dis_ov_l d
  obtain ⟨I1, N1, x1, x2, x3, x4⟩ := (h7 I (Ex.refl I)).wk (w s) y2
  have z := dis_ov_r h3 y1
  rw [← x3] at z
  obtain ⟨z1, z2⟩ := dis_r_ov z
  refine q _ _ I1 N1 σ x1 x4 ⟨a, Ma, rfl, z1, dis_ov z2 x2, ?_, (Pρ (f s)).up x1 (hP s _ _ _ h2)⟩
  rw [← ov_assoc, ← ov_assoc, x3]
theorem rt_retN (w : ∀ s, Wk (Γ s) (Γr s)) : RT (rIm K) tRetN Γ (mp ()) Γr := fun s I F N σ e d D q => by
  obtain ⟨I1, N1, x1, x2, x3, x4⟩ := e.wk (w s) d
  exact q _ _ I1 N1 σ x1 x4 ⟨x2, x3.symm, rfl⟩
theorem rc_ret {Γb : β → S → List Sl} {m : Mn S ρ} (h : RT Ret t Γ m Γr) : RC Ret (τ := τ) (β := β) t Γ (mb m fun x => mp (.rt x)) Γr Γ' Γb := fun s I F N σ e d D q => h s I F N σ e d D (sat_mb.mp q)
theorem rx_ret {Γb : β → S → List Sl} {m : Mn S ρ} (h : RT Ret t Γ m Γr) : RX Ret (τ := τ) (β := β) t Γ (mb m fun x => mp (.rt x)) Γr Γb := fun s I F N σ e d D q => h s I F N σ e d D (sat_mb.mp q)
theorem rx_brk {Γb : β → S → List Sl} {b : β} (w : ∀ s, Wk (Γ s) (Γb b s)) : RX Ret (ρ := ρ) (τ := τ) tBreak Γ (mp (.br b)) Γr Γb := fun s I F N σ e d D q => by
  obtain ⟨I1, N1, x1, x2, x3, x4⟩ := e.wk (w s) d
  show D.bk σ (ov N I)
  rw [← x3]
  exact q I1 N1 σ x1 x2 x4
theorem rc_of_x {Γb : β → S → List Sl} {m : Mn S (Ct ρ τ β)} (h : RX Ret t Γ m Γr Γb) : RC Ret t Γ m Γr Γ' Γb := fun s I F N σ e d D q => h s I F N σ e d D (R.sat_imp q fun c s' q => by
  cases c with
  | rt x => exact q
  | nx x => trivial
  | br x => exact q)
theorem rc_of_p {Γb : β → S → List Sl} {m : Mn S τ} (h : RP t Γ m Γ') : RC Ret (ρ := ρ) t Γ (mb m fun x => mp (.nx x)) Γr Γ' Γb := fun s I F N σ e d D q => h s I F N σ e d D (sat_mb.mp q)
/-! statements in a row -/
theorem rp_seq {m1 : Mn S τ'} {m2 : τ' → Mn S τ} (h1 : RP t1 Γ m1 Γt) (h2 : ∀ x, RP t2 (Γt x) (m2 x) Γ') : RP (tSeq t1 t2) Γ (mb m1 m2) Γ' := fun s I F N σ e d D q =>
  h1 s I F N σ e d _ (R.sat_imp (sat_mb.mp q) fun x s1 q I1 N1 σ1 a1 d1 e1 => h2 x s1 I1 F N1 σ1 e1 d1 D (R.sat_imp q fun y s2 q I2 N2 σ2 a2 d2 e2 => q I2 N2 σ2 (a1.trans a2) d2 e2))
theorem rt_seq {m1 : Mn S τ'} {m2 : τ' → Mn S ρ} (h1 : RP t1 Γ m1 Γt) (h2 : ∀ x, RT Ret t2 (Γt x) (m2 x) Γr) : RT Ret (tSeq t1 t2) Γ (mb m1 m2) Γr := fun s I F N σ e d D q =>
  h1 s I F N σ e d _ (R.sat_imp (sat_mb.mp q) fun x s1 q I1 N1 σ1 a1 d1 e1 => h2 x s1 I1 F N1 σ1 e1 d1 D (R.sat_imp q fun y s2 q v H2 I2 N2 σ2 a2 e2 r2 => q v H2 I2 N2 σ2 (a1.trans a2) e2 r2))
theorem rn_seq {m1 : Mn S τ'} {m2 : τ' → Mn S ρ} (h1 : RP t1 Γ m1 Γt) (h2 : ∀ x, RN Ret t2 (Γt x) (m2 x) Γr) : RN Ret (tSeq t1 t2) Γ (mb m1 m2) Γr := fun s I F N σ e d D hn q =>
  h1 s I F N σ e d _ (R.sat_imp (sat_mb.mp q) fun x s1 q I1 N1 σ1 a1 d1 e1 => h2 x s1 I1 F N1 σ1 e1 d1 D hn (R.sat_imp q fun y s2 q v H2 I2 N2 σ2 a2 e2 r2 => q v H2 I2 N2 σ2 (a1.trans a2) e2 r2))
theorem rn_last {m : Mn S τ} (h : RP t Γ m Γ') (w : ∀ x s, Wk (Γ' x s) (Γr s)) : RN (rIm K) t Γ (mb m fun _ => mp ()) Γr := fun s I F N σ e d D hn q =>
  h s I F N σ e d _ (R.sat_imp (sat_mb.mp q) fun x s1 q I1 N1 σ1 a1 d1 e1 => by
    obtain ⟨I2, N2, x1, x2, x3, x4⟩ := e1.wk (w x s1) d1
    exact hn σ1 _ (q _ _ I2 N2 σ1 (a1.trans x1) x4 ⟨x2, x3.symm, rfl⟩))
theorem rn_next (w : ∀ s, Wk (Γ s) (Γr s)) : RN (rIm K) tNext Γ (mp ()) Γr := fun s I F N σ e d D hn q => by
  obtain ⟨I2, N2, x1, x2, x3, x4⟩ := e.wk (w s) d
  exact hn σ _ (q _ _ I2 N2 σ x1 x4 ⟨x2, x3.symm, rfl⟩)
theorem rc_seqP {Γb : β → S → List Sl} {m1 : Mn S τ'} {m2 : τ' → Mn S (Ct ρ τ β)} (h1 : RP t1 Γ m1 Γt) (h2 : ∀ x, RC Ret t2 (Γt x) (m2 x) Γr Γ' Γb) : RC Ret (tSeq t1 t2) Γ (mb m1 m2) Γr Γ' Γb := fun s I F N σ e d D q =>
  h1 s I F N σ e d _ (R.sat_imp (sat_mb.mp q) fun x s1 q I1 N1 σ1 a1 d1 e1 => h2 x s1 I1 F N1 σ1 e1 d1 D (R.sat_imp q fun c s2 q => by
    cases c with
    | rt x => exact fun v H2 I2 N2 σ2 a2 e2 r2 => q v H2 I2 N2 σ2 (a1.trans a2) e2 r2
    | nx x => exact fun I2 N2 σ2 a2 d2 e2 => q I2 N2 σ2 (a1.trans a2) d2 e2
    | br x => exact fun I2 N2 σ2 a2 d2 e2 => q I2 N2 σ2 (a1.trans a2) d2 e2))
theorem rx_seqP {Γb : β → S → List Sl} {m1 : Mn S τ'} {m2 : τ' → Mn S (Ct ρ τ β)} (h1 : RP t1 Γ m1 Γt) (h2 : ∀ x, RX Ret t2 (Γt x) (m2 x) Γr Γb) : RX Ret (tSeq t1 t2) Γ (mb m1 m2) Γr Γb := fun s I F N σ e d D q =>
  h1 s I F N σ e d _ (R.sat_imp (sat_mb.mp q) fun x s1 q I1 N1 σ1 a1 d1 e1 => h2 x s1 I1 F N1 σ1 e1 d1 D (R.sat_imp q fun c s2 q => by
    cases c with
    | rt x => exact fun v H2 I2 N2 σ2 a2 e2 r2 => q v H2 I2 N2 σ2 (a1.trans a2) e2 r2
    | nx x => trivial
    | br x => exact fun I2 N2 σ2 a2 d2 e2 => q I2 N2 σ2 (a1.trans a2) d2 e2))
/-- what follows a statement with ways out -/
def ctk {S ρ τ β : Type} (k : τ → Mn S ρ) (j : β → Mn S ρ) : Ct ρ τ β → Mn S ρ
  | .rt x => mp x
  | .nx x => k x
  | .br x => j x
def ctc {S ρ τ τ' β : Type} (k : τ' → Mn S (Ct ρ τ β)) : Ct ρ τ' β → Mn S (Ct ρ τ β)
  | .rt x => mp (.rt x)
  | .nx x => k x
  | .br x => mp (.br x)
theorem rt_seqC {Γb : β → S → List Sl} {m1 : Mn S (Ct ρ τ' β)} {m2 : τ' → Mn S ρ} (h1 : RC Ret t1 Γ m1 Γr Γt Γb) (h2 : ∀ x, RT Ret t2 (Γt x) (m2 x) Γr) : RT Ret (tSeq t1 t2) Γ (mb m1 (ctk m2 fun _ => mbad)) Γr := fun s I F N σ e d D q =>
  h1 s I F N σ e d _ (R.sat_imp (sat_mb.mp q) fun c s1 q => by
    cases c with
    | rt x => exact q
    | nx x => exact fun I1 N1 σ1 a1 d1 e1 => h2 x s1 I1 F N1 σ1 e1 d1 D (R.sat_imp q fun y s2 q v H2 I2 N2 σ2 a2 e2 r2 => q v H2 I2 N2 σ2 (a1.trans a2) e2 r2)
    | br x => exact q.elim)
theorem rn_seqC {Γb : β → S → List Sl} {m1 : Mn S (Ct ρ τ' β)} {m2 : τ' → Mn S ρ} (h1 : RC Ret t1 Γ m1 Γr Γt Γb) (h2 : ∀ x, RN Ret t2 (Γt x) (m2 x) Γr) : RN Ret (tSeq t1 t2) Γ (mb m1 (ctk m2 fun _ => mbad)) Γr := fun s I F N σ e d D hn q =>
  h1 s I F N σ e d _ (R.sat_imp (sat_mb.mp q) fun c s1 q => by
    cases c with
    | rt x => exact q
    | nx x => exact fun I1 N1 σ1 a1 d1 e1 => h2 x s1 I1 F N1 σ1 e1 d1 D hn (R.sat_imp q fun y s2 q v H2 I2 N2 σ2 a2 e2 r2 => q v H2 I2 N2 σ2 (a1.trans a2) e2 r2)
    | br x => exact q.elim)
theorem rc_seq {Γb : β → S → List Sl} {m1 : Mn S (Ct ρ τ' β)} {m2 : τ' → Mn S (Ct ρ τ β)} (h1 : RC Ret t1 Γ m1 Γr Γt Γb) (h2 : ∀ x, RC Ret t2 (Γt x) (m2 x) Γr Γ' Γb) : RC Ret (tSeq t1 t2) Γ (mb m1 (ctc m2)) Γr Γ' Γb := fun s I F N σ e d D q =>
  h1 s I F N σ e d _ (R.sat_imp (sat_mb.mp q) fun c s1 q => by
    cases c with
    | rt x => exact q
    | nx x => exact fun I1 N1 σ1 a1 d1 e1 => h2 x s1 I1 F N1 σ1 e1 d1 D (R.sat_imp q fun c s2 q => by
        cases c with
        | rt x => exact fun v H2 I2 N2 σ2 a2 e2 r2 => q v H2 I2 N2 σ2 (a1.trans a2) e2 r2
        | nx x => exact fun I2 N2 σ2 a2 d2 e2 => q I2 N2 σ2 (a1.trans a2) d2 e2
        | br x => exact fun I2 N2 σ2 a2 d2 e2 => q I2 N2 σ2 (a1.trans a2) d2 e2)
    | br x => exact q)
/-! if -/
theorem ifS {mc : Mn S Bool} {α : Type} {m1 m2 : Mn S α} {G : Mn S α → TS → Prop} (hc : TM tc Γ mc) {s : S} {I F N : Hp} {σ : L2.St} {D : Ends} (e : EnvG s I F N σ (Γ s)) (d : Dis N I) {Q : α → S → Prop} (q : (mb mc (fun b => mi b m1 m2) s).sat Q)
    (h1 : ∀ s1 I1 N1, Ex I I1 → Dis N1 I1 → EnvG s1 I1 F N1 σ (Γ s1) → (m1 s1).sat Q → t1 D σ (ov N1 I1)) (h2 : ∀ s1 I1 N1, Ex I I1 → Dis N1 I1 → EnvG s1 I1 F N1 σ (Γ s1) → (m2 s1).sat Q → t2 D σ (ov N1 I1)) : tIfS tc t1 t2 D σ (ov N I) :=
  hc s I F N σ e d _ (R.sat_imp (sat_mb.mp q) fun b s1 q I1 N1 a1 d1 e1 => by
    cases b with
    | true => exact h1 s1 I1 N1 a1 d1 e1 q
    | false => exact h2 s1 I1 N1 a1 d1 e1 q)
theorem rp_if {mc : Mn S Bool} {m1 m2 : Mn S τ} (hc : TM tc Γ mc) (h1 : RP t1 Γ m1 Γ') (h2 : RP t2 Γ m2 Γ') : RP (tIfS tc t1 t2) Γ (mb mc fun b => mi b m1 m2) Γ' := fun s I F N σ e d D q =>
  ifS (G := fun _ _ => True) hc e d q (fun s1 I1 N1 a1 d1 e1 q => h1 s1 I1 F N1 σ e1 d1 D (R.sat_imp q fun y s2 q I2 N2 σ2 a2 d2 e2 => q I2 N2 σ2 (a1.trans a2) d2 e2)) (fun s1 I1 N1 a1 d1 e1 q => h2 s1 I1 F N1 σ e1 d1 D (R.sat_imp q fun y s2 q I2 N2 σ2 a2 d2 e2 => q I2 N2 σ2 (a1.trans a2) d2 e2))
theorem rt_if {mc : Mn S Bool} {m1 m2 : Mn S ρ} (hc : TM tc Γ mc) (h1 : RT Ret t1 Γ m1 Γr) (h2 : RT Ret t2 Γ m2 Γr) : RT Ret (tIfS tc t1 t2) Γ (mb mc fun b => mi b m1 m2) Γr := fun s I F N σ e d D q =>
  ifS (G := fun _ _ => True) hc e d q (fun s1 I1 N1 a1 d1 e1 q => h1 s1 I1 F N1 σ e1 d1 D (R.sat_imp q fun y s2 q v H2 I2 N2 σ2 a2 e2 r2 => q v H2 I2 N2 σ2 (a1.trans a2) e2 r2)) (fun s1 I1 N1 a1 d1 e1 q => h2 s1 I1 F N1 σ e1 d1 D (R.sat_imp q fun y s2 q v H2 I2 N2 σ2 a2 e2 r2 => q v H2 I2 N2 σ2 (a1.trans a2) e2 r2))
theorem rn_if {mc : Mn S Bool} {m1 m2 : Mn S ρ} (hc : TM tc Γ mc) (h1 : RN Ret t1 Γ m1 Γr) (h2 : RN Ret t2 Γ m2 Γr) : RN Ret (tIfS tc t1 t2) Γ (mb mc fun b => mi b m1 m2) Γr := fun s I F N σ e d D hn q =>
  ifS (G := fun _ _ => True) hc e d q (fun s1 I1 N1 a1 d1 e1 q => h1 s1 I1 F N1 σ e1 d1 D hn (R.sat_imp q fun y s2 q v H2 I2 N2 σ2 a2 e2 r2 => q v H2 I2 N2 σ2 (a1.trans a2) e2 r2)) (fun s1 I1 N1 a1 d1 e1 q => h2 s1 I1 F N1 σ e1 d1 D hn (R.sat_imp q fun y s2 q v H2 I2 N2 σ2 a2 e2 r2 => q v H2 I2 N2 σ2 (a1.trans a2) e2 r2))
/-- if c: .. that returns; the rest -/
theorem rt_ifr {mc : Mn S Bool} {m1 m2 : Mn S ρ} (hc : TM tc Γ mc) (h1 : RT Ret t1 Γ m1 Γr) (h2 : RT Ret t2 Γ m2 Γr) : RT Ret (tSeq (tIfS tc t1 tNext) t2) Γ (mb mc fun b => mi b m1 m2) Γr := fun s I F N σ e d D q =>
  ifS (t2 := tNext) (D := { D with nx := t2 D }) (G := fun _ _ => True) hc e d q (fun s1 I1 N1 a1 d1 e1 q => h1 s1 I1 F N1 σ e1 d1 _ (R.sat_imp q fun y s2 q v H2 I2 N2 σ2 a2 e2 r2 => q v H2 I2 N2 σ2 (a1.trans a2) e2 r2)) (fun s1 I1 N1 a1 d1 e1 q => h2 s1 I1 F N1 σ e1 d1 D (R.sat_imp q fun y s2 q v H2 I2 N2 σ2 a2 e2 r2 => q v H2 I2 N2 σ2 (a1.trans a2) e2 r2))
theorem rn_ifr {mc : Mn S Bool} {m1 m2 : Mn S ρ} (hc : TM tc Γ mc) (h1 : RT Ret t1 Γ m1 Γr) (h2 : RN Ret t2 Γ m2 Γr) : RN Ret (tSeq (tIfS tc t1 tNext) t2) Γ (mb mc fun b => mi b m1 m2) Γr := fun s I F N σ e d D hn q =>
  ifS (t2 := tNext) (D := { D with nx := t2 D }) (G := fun _ _ => True) hc e d q (fun s1 I1 N1 a1 d1 e1 q => h1 s1 I1 F N1 σ e1 d1 _ (R.sat_imp q fun y s2 q v H2 I2 N2 σ2 a2 e2 r2 => q v H2 I2 N2 σ2 (a1.trans a2) e2 r2)) (fun s1 I1 N1 a1 d1 e1 q => h2 s1 I1 F N1 σ e1 d1 D hn (R.sat_imp q fun y s2 q v H2 I2 N2 σ2 a2 e2 r2 => q v H2 I2 N2 σ2 (a1.trans a2) e2 r2))
theorem ctup {S : Type} [SH S] {D : Ends} {Γr : S → List Sl} {F : Hp} {Γ' : τ → S → List Sl} {Γb : β → S → List Sl} {I I1 : Hp} (a1 : Ex I I1) {c : Ct ρ τ β} {s' : S} (q : CtQ Ret D F Γr Γ' Γb I c s') : CtQ Ret D F Γr Γ' Γb I1 c s' := by
  cases c with
  | rt x => exact fun v H2 I2 N2 σ2 a2 e2 r2 => q v H2 I2 N2 σ2 (a1.trans a2) e2 r2
  | nx x => exact fun I2 N2 σ2 a2 d2 e2 => q I2 N2 σ2 (a1.trans a2) d2 e2
  | br x => exact fun I2 N2 σ2 a2 d2 e2 => q I2 N2 σ2 (a1.trans a2) d2 e2
theorem rc_if {Γb : β → S → List Sl} {mc : Mn S Bool} {m1 m2 : Mn S (Ct ρ τ β)} (hc : TM tc Γ mc) (h1 : RC Ret t1 Γ m1 Γr Γ' Γb) (h2 : RC Ret t2 Γ m2 Γr Γ' Γb) : RC Ret (tIfS tc t1 t2) Γ (mb mc fun b => mi b m1 m2) Γr Γ' Γb := fun s I F N σ e d D q =>
  ifS (G := fun _ _ => True) hc e d q (fun s1 I1 N1 a1 d1 e1 q => h1 s1 I1 F N1 σ e1 d1 D (R.sat_imp q fun c s2 q => ctup a1 q)) (fun s1 I1 N1 a1 d1 e1 q => h2 s1 I1 F N1 σ e1 d1 D (R.sat_imp q fun c s2 q => ctup a1 q))
theorem rx_if {Γb : β → S → List Sl} {mc : Mn S Bool} {m1 m2 : Mn S (Ct ρ τ β)} (hc : TM tc Γ mc) (h1 : RX Ret t1 Γ m1 Γr Γb) (h2 : RX Ret t2 Γ m2 Γr Γb) : RX Ret (tIfS tc t1 t2) Γ (mb mc fun b => mi b m1 m2) Γr Γb := fun s I F N σ e d D q =>
  ifS (G := fun _ _ => True) hc e d q (fun s1 I1 N1 a1 d1 e1 q => h1 s1 I1 F N1 σ e1 d1 D (R.sat_imp q fun c s2 q => by
      cases c with
      | rt x => exact fun v H2 I2 N2 σ2 a2 e2 r2 => q v H2 I2 N2 σ2 (a1.trans a2) e2 r2
      | nx x => trivial
      | br x => exact fun I2 N2 σ2 a2 d2 e2 => q I2 N2 σ2 (a1.trans a2) d2 e2))
    (fun s1 I1 N1 a1 d1 e1 q => h2 s1 I1 F N1 σ e1 d1 D (R.sat_imp q fun c s2 q => by
      cases c with
      | rt x => exact fun v H2 I2 N2 σ2 a2 e2 r2 => q v H2 I2 N2 σ2 (a1.trans a2) e2 r2
      | nx x => trivial
      | br x => exact fun I2 N2 σ2 a2 d2 e2 => q I2 N2 σ2 (a1.trans a2) d2 e2))
theorem rc_ifr {Γb : β → S → List Sl} {mc : Mn S Bool} {m1 m2 : Mn S (Ct ρ τ β)} (hc : TM tc Γ mc) (h1 : RX Ret t1 Γ m1 Γr Γb) (h2 : RC Ret t2 Γ m2 Γr Γ' Γb) : RC Ret (tSeq (tIfS tc t1 tNext) t2) Γ (mb mc fun b => mi b m1 m2) Γr Γ' Γb := fun s I F N σ e d D q =>
  ifS (t2 := tNext) (D := { D with nx := t2 D }) (G := fun _ _ => True) hc e d q (fun s1 I1 N1 a1 d1 e1 q => h1 s1 I1 F N1 σ e1 d1 _ (R.sat_imp q fun c s2 q => by
      cases c with
      | rt x => exact fun v H2 I2 N2 σ2 a2 e2 r2 => q v H2 I2 N2 σ2 (a1.trans a2) e2 r2
      | nx x => trivial
      | br x => exact fun I2 N2 σ2 a2 d2 e2 => q I2 N2 σ2 (a1.trans a2) d2 e2))
    (fun s1 I1 N1 a1 d1 e1 q => h2 s1 I1 F N1 σ e1 d1 D (R.sat_imp q fun c s2 q => ctup a1 q))
/-! assignments -/
theorem rp_asg {i : Nat} {m : Mn S α} {Γ' : α → S → List Sl} (h : EM K te Γ m) (hn : ∀ s, NotOw (Γ s) i) (hΓ : ∀ x s, (Γ s).set i (.im (pv K x)) = Γ' x s) : RP (tAsg te (gName i)) Γ m Γ' := fun s I F N σ e d D q =>
  h s I F N σ e d _ (R.sat_imp q fun x s' q v I' N' a1 d1 e1 r1 => q I' N' _ a1 d1 (by rw [← hΓ]; exact e1.set r1 (hn s')))
theorem rp_drop {m : Mn S α} (h : EM K te Γ m) : RP (tDrop te) Γ m (fun _ => Γ) := fun s I F N σ e d D q =>
  h s I F N σ e d _ (R.sat_imp q fun x s' q v I' N' a1 d1 e1 r1 => q I' N' σ a1 d1 e1)
end
end
end Mir

/-! Mir5: what is walked; loops; comprehensions; a def's body and its promise -/
namespace Mir
open PySem L2
section
variable {K : PySem.W.Frag}
/-! ### what is walked -/
def ItOk (K : PySem.W.Frag) {α : Type} [Rp α] (J : It) (I : Hp) (xs : List α) : Prop := ∀ I1 N1, Ex I I1 → Dis N1 I1 →
  (∀ (i : Nat) (x : α), xs[i]? = some x → J.go i (ov N1 I1) ∧ ∀ v H', J.yld i (ov N1 I1) v H' → ∃ I2, H' = ov N1 I2 ∧ Ex I1 I2 ∧ Dis N1 I2 ∧ Rp.r K x I2 v) ∧ J.stop xs.length (ov N1 I1)
def IM (K : PySem.W.Frag) {S α : Type} [SH S] [Rp α] (wi : TI) (Γ : S → List Sl) (m : Mn S (List α)) : Prop := ∀ (s : S) (I F N : Hp) (σ : L2.St), EnvG s I F N σ (Γ s) → Dis N I → ∀ Rr : It → Hp → Prop,
  (m s).sat (fun xs s' => ∀ J I' N', Ex I I' → Dis N' I' → EnvG s' I' F N' σ (Γ s') → ItOk K J I' xs → Rr J (ov N' I')) → wi σ (ov N I) Rr
section
variable {S α β γ : Type} [SH S] [Rp α] [Rp β] {Γ : S → List Sl} {te : TE} {ta : TA}
theorem it_list {a : Addr} {xs : List α} {vs : List V} {I : Hp} (h : SqL K I a vs) (r : Rs K xs I vs) : ItOk K (Itl K a) I xs := fun I1 N1 a1 d1 => by
  have h1 : SqL K (ov N1 I1) a vs := sql_up (a1.trans (ex_ov d1)) h
  refine ⟨fun i x hx => ?_, ⟨vs, h1, by rw [r.length]; exact Nat.le_refl _⟩⟩
  obtain ⟨v, e1, e2⟩ := r.get hx
  refine ⟨⟨vs, v, h1, e1⟩, fun u H' ⟨y1, y2⟩ => ?_⟩
  have e3 := y2 vs h1
  rw [e1] at e3
  cases e3
  exact ⟨I1, y1, Ex.refl I1, d1, Rp.up a1 e2⟩
theorem it_tup {a : Addr} {xs : List α} {vs : List V} {I : Hp} (h : SqT K I a vs) (r : Rs K xs I vs) : ItOk K (Itt K a) I xs := fun I1 N1 a1 d1 => by
  have h1 : SqT K (ov N1 I1) a vs := sqt_up (a1.trans (ex_ov d1)) h
  refine ⟨fun i x hx => ?_, ⟨vs, h1, by rw [r.length]; exact Nat.le_refl _⟩⟩
  obtain ⟨v, e1, e2⟩ := r.get hx
  refine ⟨⟨vs, v, h1, e1⟩, fun u H' ⟨y1, y2⟩ => ?_⟩
  have e3 := y2 vs h1
  rw [e1] at e3
  cases e3
  exact ⟨I1, y1, Ex.refl I1, d1, Rp.up a1 e2⟩
/-- lo, lo + 1, .. -/
def rng (lo : Int) (n : Nat) : List Int := (List.range n).map fun i => lo + (i : Nat)
theorem rng_len {lo : Int} {n : Nat} : (rng lo n).length = n := by unfold rng; rw [List.length_map, List.length_range]
theorem rng_get {lo : Int} {n i : Nat} {x : Int} (h : (rng lo n)[i]? = some x) : i < n ∧ x = lo + (i : Nat) := by
  have hi : i < n := by
    have := (List.getElem?_eq_some_iff.mp h).1
    rw [rng_len] at this
    exact this
  unfold rng at h
  rw [List.getElem?_map, List.getElem?_range hi] at h
  exact ⟨hi, (Option.some.inj h).symm⟩
theorem it_rng {lo : Int} {n : Nat} {I : Hp} : ItOk K (Itr lo n) I (rng lo n) := fun I1 N1 a1 d1 => by
  refine ⟨fun i x hx => ?_, by rw [rng_len]; exact Nat.le_refl _⟩
  obtain ⟨h1, h2⟩ := rng_get hx
  refine ⟨h1, fun u H' ⟨y1, y2⟩ => ⟨I1, y1, Ex.refl I1, d1, ?_⟩⟩
  rw [h2]
  exact y2
theorem im_list {xs : List α} (h : ∀ s, EP te (Γ s) (pv K xs)) : IM K (iList K te) Γ (mp xs) := fun s I F N σ e d Rr q =>
  h s I F N σ e d _ fun v I1 a1 d1 ⟨a, vs, h1, h2, h3⟩ => ⟨a, h1, ⟨vs, SqL.of (ex_ov d1 _ _ h2)⟩, q _ I1 N a1 d1 (e.up a1) (it_list (SqL.of h2) h3)⟩
theorem im_listM {m : Mn S (List α)} (h : EM K te Γ m) : IM K (iList K te) Γ m := fun s I F N σ e d Rr q =>
  h s I F N σ e d _ (R.sat_imp q fun xs s1 q v I1 N1 a1 d1 e1 ⟨a, vs, h1, h2, h3⟩ => ⟨a, h1, ⟨vs, SqL.of (ex_ov d1 _ _ h2)⟩, q _ I1 N1 a1 d1 e1 (it_list (SqL.of h2) h3)⟩)
theorem im_tup {xs : Tu α} (h : ∀ s, EP te (Γ s) (pv K xs)) : IM K (iTup K te) Γ (mp xs.l) := fun s I F N σ e d Rr q =>
  h s I F N σ e d _ fun v I1 a1 d1 ⟨a, vs, h1, h2, h3⟩ => ⟨a, h1, ⟨vs, sqt_ov d1 h2⟩, q _ I1 N a1 d1 (e.up a1) (it_tup h2 h3)⟩
theorem im_tupM {m : Mn S (Tu α)} (h : EM K te Γ m) : IM K (iTup K te) Γ (mb m fun x => mp x.l) := fun s I F N σ e d Rr q =>
  h s I F N σ e d _ (R.sat_imp (sat_mb.mp q) fun xs s1 q v I1 N1 a1 d1 e1 ⟨a, vs, h1, h2, h3⟩ => ⟨a, h1, ⟨vs, sqt_ov d1 h2⟩, q _ I1 N1 a1 d1 e1 (it_tup h2 h3)⟩)
/-- range(n), range(lo, n): bounds within 2 ^ 62 -/
def b62 (i : Int) : Bool := decide (-(2 ^ 62) ≤ i ∧ i < 2 ^ 62)
theorem im_rng1 {n : Int} (h : ∀ s, AP ta (Γ s) [pv K n]) : IM K (iRng1 ta) Γ (mc (b62 n) (rng 0 n.toNat)) := fun s I F N σ e d Rr q => by
  obtain ⟨c, q⟩ := sat_mc.mp q
  have c := of_decide_eq_true c
  refine h s I F N σ e d _ fun vs I1 a1 d1 r1 => ?_
  obtain ⟨v, _, rfl, r, r1⟩ := all2_c r1
  cases all2_n r1
  cases (show v = V.int n from r)
  exact ⟨n, rfl, c.1, c.2, q _ I1 N a1 d1 (e.up a1) it_rng⟩
theorem im_rng1M {ζ : Type} {m : Mn S ζ} {f : ζ → Int} (h : AM ta Γ m fun z => [pv K (f z)]) : IM K (iRng1 ta) Γ (mb m fun z => mc (b62 (f z)) (rng 0 (f z).toNat)) := fun s I F N σ e d Rr q => by
  refine h s I F N σ e d _ (R.sat_imp (sat_mb.mp q) fun z s1 q vs I1 N1 a1 d1 e1 r1 => ?_)
  obtain ⟨c, q⟩ := sat_mc.mp q
  have c := of_decide_eq_true c
  obtain ⟨v, _, rfl, r, r1⟩ := all2_c r1
  cases all2_n r1
  cases (show v = V.int (f z) from r)
  exact ⟨f z, rfl, c.1, c.2, q _ I1 N1 a1 d1 e1 it_rng⟩
theorem im_rng2 {lo n : Int} (h : ∀ s, AP ta (Γ s) [pv K lo, pv K n]) : IM K (iRng2 ta) Γ (mc (b62 lo && b62 n) (rng lo (n - lo).toNat)) := fun s I F N σ e d Rr q => by
  obtain ⟨c, q⟩ := sat_mc.mp q
  obtain ⟨c1, c2⟩ := Bool.and_eq_true_iff.mp c
  have c1 := of_decide_eq_true c1
  have c2 := of_decide_eq_true c2
  refine h s I F N σ e d _ fun vs I1 a1 d1 r1 => ?_
  obtain ⟨v, _, rfl, r, r1⟩ := all2_c r1
  obtain ⟨w, _, rfl, r', r1⟩ := all2_c r1
  cases all2_n r1
  cases (show v = V.int lo from r)
  cases (show w = V.int n from r')
  exact ⟨lo, n, rfl, ⟨c1.1, c1.2, c2.1, c2.2⟩, q _ I1 N a1 d1 (e.up a1) it_rng⟩
theorem im_rng2M {ζ : Type} {m : Mn S ζ} {f g : ζ → Int} (h : AM ta Γ m fun z => [pv K (f z), pv K (g z)]) : IM K (iRng2 ta) Γ (mb m fun z => mc (b62 (f z) && b62 (g z)) (rng (f z) (g z - f z).toNat)) := fun s I F N σ e d Rr q => by
  refine h s I F N σ e d _ (R.sat_imp (sat_mb.mp q) fun z s1 q vs I1 N1 a1 d1 e1 r1 => ?_)
  obtain ⟨c, q⟩ := sat_mc.mp q
  obtain ⟨c1, c2⟩ := Bool.and_eq_true_iff.mp c
  have c1 := of_decide_eq_true c1
  have c2 := of_decide_eq_true c2
  obtain ⟨v, _, rfl, r, r1⟩ := all2_c r1
  obtain ⟨w, _, rfl, r', r1⟩ := all2_c r1
  cases all2_n r1
  cases (show v = V.int (f z) from r)
  cases (show w = V.int (g z) from r')
  exact ⟨f z, g z, rfl, ⟨c1.1, c1.2, c2.1, c2.2⟩, q _ I1 N1 a1 d1 e1 it_rng⟩
end

/-! ### targets -/
/-- the item x is bound; js: the slots -/
def GT (K : PySem.W.Frag) {α : Type} [Rp α] (g : TG) (Γ : List Sl) (x : α) (Γ' : List Sl) (js : List Nat) : Prop := ∀ (I F N : Hp) (σ : L2.St) (v : V), EnvOk I F N σ Γ → Dis N I → Rp.r K x I v → ∀ Q : L2.St → Hp → Prop,
  (∀ σ', EnvOk I F N σ' Γ' → (∀ vs : List Nat, (∀ j ∈ js, j ∈ vs) → wipe σ' vs = wipe σ vs) → Q σ' (ov N I)) → g v σ (ov N I) Q
theorem GT.g {K : PySem.W.Frag} {α : Type} [Rp α] {g : TG} {Γ Γ' : List Sl} {x : α} {js : List Nat} (h : GT K g Γ x Γ' js) {S : Type} [SH S] (s : S) (I F N : Hp) (σ : L2.St) (v : V) (e : EnvG s I F N σ Γ) (d : Dis N I) (r : Rp.r K x I v) (Q : L2.St → Hp → Prop)
    (q : ∀ σ', EnvG s I F N σ' Γ' → (∀ vs : List Nat, (∀ j ∈ js, j ∈ vs) → wipe σ' vs = wipe σ vs) → Q σ' (ov N I)) : g v σ (ov N I) Q := by
  obtain ⟨G, h1, h2, e⟩ := e
  exact h I _ N σ v e d r Q fun σ' e' w => q σ' ⟨G, h1, h2, e'⟩ w
theorem wipe_get {σ : L2.St} {i : Nat} : ∀ vs : List Nat, (wipe σ vs)[i]? = if i ∈ vs then σ[i]?.map fun _ => none else σ[i]?
  | [] => by simp [wipe]
  | v :: vs => by
    unfold wipe
    rw [List.getElem?_set, wipe_get vs, wipe_length]
    by_cases h : v = i
    · subst h
      by_cases hl : v < σ.length
      · simp [hl, List.getElem?_eq_getElem hl]
      · simp [hl, List.getElem?_eq_none (Nat.le_of_not_lt hl)]
    · have h' : ¬ i = v := fun q => h q.symm
      rw [if_neg h]
      simp only [List.mem_cons, h', false_or]
theorem wipe_set {σ : L2.St} {j : Nat} {y : Option V} {vs : List Nat} (h : j ∈ vs) : wipe (σ.set j y) vs = wipe σ vs := by
  refine List.ext_getElem? fun i => ?_
  rw [wipe_get, wipe_get, List.getElem?_set]
  by_cases e : j = i
  · subst e
    by_cases hl : j < σ.length
    · simp [h, hl, List.getElem?_eq_getElem hl]
    · simp [h, hl, List.getElem?_eq_none (Nat.le_of_not_lt hl)]
  · rw [if_neg e]
theorem wipe_wipe {σ : L2.St} {vs : List Nat} : wipe (wipe σ vs) vs = wipe σ vs := by
  refine List.ext_getElem? fun i => ?_
  rw [wipe_get, wipe_get]
  by_cases e : i ∈ vs
  · rw [if_pos e, if_pos e, Option.map_map]
    rfl
  · rw [if_neg e, if_neg e]
section
variable {α β γ δ ε : Type} [Rp α] [Rp β] [Rp γ] [Rp δ] [Rp ε] {Γ Γ' : List Sl} {i j k l : Nat}
theorem gt_name {x : α} (hn : NotOw Γ i) (hΓ : Γ.set i (.im (pv K x)) = Γ') : GT K (gName i) Γ x Γ' [i] := fun I F N σ v e d r Q q => by
  refine q _ ?_ fun vs h => wipe_set (h i (List.mem_cons_self ..))
  rw [← hΓ]
  exact e.set r hn
/-- a name that nobody reads -/
theorem gt_nameNo {x : α} (hn : NotOw Γ i) (hΓ : Γ.set i .no = Γ') : GT K (gName i) Γ x Γ' [i] := fun I F N σ v e d r Q q => by
  refine q _ ?_ fun vs h => wipe_set (h i (List.mem_cons_self ..))
  rw [← hΓ]
  exact e.setNo hn
theorem gt_2 {x : α × β} {Γ1 : List Sl} {g1 g2 : TG} {js ks : List Nat} (h1 : GT K g1 Γ x.1 Γ1 js) (h2 : GT K g2 Γ1 x.2 Γ' ks) : GT K (gTup K 2 (gCons g1 (gCons g2 gNil))) Γ x Γ' (js ++ ks) := fun I F N σ v e d ⟨a, v1, v2, r1, r2, r3, r4⟩ Q q =>
  ⟨a, _, r1, sqt_ov d r2, rfl, v1, _, rfl, h1 I F N σ v1 e d r3 _ fun σ1 e1 w1 => ⟨v2, _, rfl, h2 I F N σ1 v2 e1 d r4 _ fun σ2 e2 w2 => ⟨rfl, q σ2 e2 fun vs h => (w2 vs fun j hj => h j (List.mem_append_right _ hj)).trans (w1 vs fun j hj => h j (List.mem_append_left _ hj))⟩⟩⟩
theorem gt_3 {x : T3 α β γ} {Γ1 Γ2 : List Sl} {g1 g2 g3 : TG} {js ks ls : List Nat} (h1 : GT K g1 Γ x.a Γ1 js) (h2 : GT K g2 Γ1 x.b Γ2 ks) (h3 : GT K g3 Γ2 x.c Γ' ls) : GT K (gTup K 3 (gCons g1 (gCons g2 (gCons g3 gNil)))) Γ x Γ' (js ++ (ks ++ ls)) := fun I F N σ v e d ⟨a, v1, v2, v3, r1, r2, r3, r4, r5⟩ Q q =>
  ⟨a, _, r1, sqt_ov d r2, rfl, v1, _, rfl, h1 I F N σ v1 e d r3 _ fun σ1 e1 w1 => ⟨v2, _, rfl, h2 I F N σ1 v2 e1 d r4 _ fun σ2 e2 w2 => ⟨v3, _, rfl, h3 I F N σ2 v3 e2 d r5 _ fun σ3 e3 w3 => ⟨rfl, q σ3 e3 fun vs h =>
    ((w3 vs fun j hj => h j (List.mem_append_right _ (List.mem_append_right _ hj))).trans (w2 vs fun j hj => h j (List.mem_append_right _ (List.mem_append_left _ hj)))).trans (w1 vs fun j hj => h j (List.mem_append_left _ hj))⟩⟩⟩⟩
theorem gt_4 {x : T4 α β γ δ} {Γ1 Γ2 Γ3 : List Sl} {g1 g2 g3 g4 : TG} {js ks ls ms : List Nat} (h1 : GT K g1 Γ x.a Γ1 js) (h2 : GT K g2 Γ1 x.b Γ2 ks) (h3 : GT K g3 Γ2 x.c Γ3 ls) (h4 : GT K g4 Γ3 x.d Γ' ms) : GT K (gTup K 4 (gCons g1 (gCons g2 (gCons g3 (gCons g4 gNil))))) Γ x Γ' (js ++ (ks ++ (ls ++ ms))) := fun I F N σ v e d ⟨a, v1, v2, v3, v4, r1, r2, r3, r4, r5, r6⟩ Q q =>
  ⟨a, _, r1, sqt_ov d r2, rfl, v1, _, rfl, h1 I F N σ v1 e d r3 _ fun σ1 e1 w1 => ⟨v2, _, rfl, h2 I F N σ1 v2 e1 d r4 _ fun σ2 e2 w2 => ⟨v3, _, rfl, h3 I F N σ2 v3 e2 d r5 _ fun σ3 e3 w3 => ⟨v4, _, rfl, h4 I F N σ3 v4 e3 d r6 _ fun σ4 e4 w4 => ⟨rfl, q σ4 e4 fun vs h =>
    (((w4 vs fun j hj => h j (List.mem_append_right _ (List.mem_append_right _ (List.mem_append_right _ hj)))).trans (w3 vs fun j hj => h j (List.mem_append_right _ (List.mem_append_right _ (List.mem_append_left _ hj))))).trans (w2 vs fun j hj => h j (List.mem_append_right _ (List.mem_append_left _ hj)))).trans (w1 vs fun j hj => h j (List.mem_append_left _ hj))⟩⟩⟩⟩⟩
theorem gt_5 {x : T5 α β γ δ ε} {Γ1 Γ2 Γ3 Γ4 : List Sl} {g1 g2 g3 g4 g5 : TG} {js ks ls ms ns : List Nat} (h1 : GT K g1 Γ x.a Γ1 js) (h2 : GT K g2 Γ1 x.b Γ2 ks) (h3 : GT K g3 Γ2 x.c Γ3 ls) (h4 : GT K g4 Γ3 x.d Γ4 ms) (h5 : GT K g5 Γ4 x.e Γ' ns) : GT K (gTup K 5 (gCons g1 (gCons g2 (gCons g3 (gCons g4 (gCons g5 gNil)))))) Γ x Γ' (js ++ (ks ++ (ls ++ (ms ++ ns)))) := fun I F N σ v e d ⟨a, v1, v2, v3, v4, v5, r1, r2, r3, r4, r5, r6, r7⟩ Q q =>
  ⟨a, _, r1, sqt_ov d r2, rfl, v1, _, rfl, h1 I F N σ v1 e d r3 _ fun σ1 e1 w1 => ⟨v2, _, rfl, h2 I F N σ1 v2 e1 d r4 _ fun σ2 e2 w2 => ⟨v3, _, rfl, h3 I F N σ2 v3 e2 d r5 _ fun σ3 e3 w3 => ⟨v4, _, rfl, h4 I F N σ3 v4 e3 d r6 _ fun σ4 e4 w4 => ⟨v5, _, rfl, h5 I F N σ4 v5 e4 d r7 _ fun σ5 e5 w5 => ⟨rfl, q σ5 e5 fun vs h =>
    ((((w5 vs fun j hj => h j (List.mem_append_right _ (List.mem_append_right _ (List.mem_append_right _ (List.mem_append_right _ hj))))).trans (w4 vs fun j hj => h j (List.mem_append_right _ (List.mem_append_right _ (List.mem_append_right _ (List.mem_append_left _ hj)))))).trans (w3 vs fun j hj => h j (List.mem_append_right _ (List.mem_append_right _ (List.mem_append_left _ hj))))).trans (w2 vs fun j hj => h j (List.mem_append_right _ (List.mem_append_left _ hj)))).trans (w1 vs fun j hj => h j (List.mem_append_left _ hj))⟩⟩⟩⟩⟩⟩
/-- a, b = e and its like -/
theorem rp_tup {S : Type} [SH S] {Γ : S → List Sl} {te : TE} {g : TG} {m : Mn S α} {Γ' : α → S → List Sl} {js : List Nat} (h : EM K te Γ m) (hg : ∀ x s, GT K g (Γ s) x (Γ' x s) js) : RP (tAsg te g) Γ m Γ' := fun s I F N σ e d D q =>
  h s I F N σ e d _ (R.sat_imp q fun x s' q v I' N' a1 d1 e1 r1 => (hg x s').g s' I' F N' σ v e1 d1 r1 _ fun σ' e2 _ => q I' N' σ' a1 d1 e2)
/-- a, b = e1, e2 -/
theorem rp_par {S : Type} [SH S] {Γ : S → List Sl} {ta : TA} {m : Mn S (α × (β × Unit))} {Γ' : α × (β × Unit) → S → List Sl} (h : AM ta Γ m fun z => [pv K z.1, pv K z.2.1]) (hi : ∀ s, NotOw (Γ s) i) (hj : ∀ x s, NotOw ((Γ s).set i (.im (pv K (x : α)))) j)
    (hΓ : ∀ x y s, ((Γ s).set i (.im (pv K x))).set j (.im (pv K y)) = Γ' (x, (y, ())) s) : RP (tPar i j ta) Γ m Γ' := fun s I F N σ e d D q =>
  h s I F N σ e d _ (R.sat_imp q fun z s' q vs I' N' a1 d1 e1 r1 => by
    obtain ⟨v, _, rfl, r, r1⟩ := all2_c r1
    obtain ⟨w, _, rfl, r', r1⟩ := all2_c r1
    cases all2_n r1
    obtain ⟨x, y, u⟩ := z
    refine ⟨v, w, rfl, q I' N' _ a1 d1 ?_⟩
    rw [show Γ' (x, y, u) s' = ((Γ s').set i (.im (pv K x))).set j (.im (pv K y)) from (hΓ x y s').symm]
    exact (e1.set (p := pv K x) r (hi s')).set (p := pv K y) r' (hj x s'))
end

/-! ### loops -/
section
variable {S α τ τ' ρ β : Type} [SH S] [Rp α] {Ret : RetT ρ}
def forP {S α τ : Type} : List α → τ → (α → τ → Mn S τ) → Mn S τ
  | [], t, _ => mp t
  | x :: xs, t, b => mb (b x t) fun t' => forP xs t' b
/-- with ways out; a break ends the loop -/
def forC {S α τ ρ β : Type} : List α → τ → (α → τ → Mn S (Ct ρ τ τ)) → Mn S (Ct ρ τ β)
  | [], t, _ => mp (.nx t)
  | x :: xs, t, b => mb (b x t) fun c => match c with
    | .rt y => mp (.rt y)
    | .nx t' => forC xs t' b
    | .br t' => mp (.nx t')
theorem rp_for {wi : TI} {g : TG} {tb : TS} {Γ : S → List Sl} {mx : Mn S (List α)} {t0 : τ} {body : α → τ → Mn S τ} {ΓL : τ → S → List Sl} {Γx : α → τ → S → List Sl} {js : List Nat} (hi : IM K wi Γ mx) (w : ∀ s, Wk (Γ s) (ΓL t0 s)) (hg : ∀ x t s, GT K g (ΓL t s) x (Γx x t s) js)
    (hb : ∀ x t, RP tb (Γx x t) (body x t) ΓL) : RP (tFor wi g tb) Γ (mb mx fun xs => forP xs t0 body) ΓL := fun s I F N σ e d D q =>
  hi s I F N σ e d _ (R.sat_imp (sat_mb.mp q) fun xs s1 q J I1 N1 a1 d1 e1 jt => by
    obtain ⟨I2, N2, x1, x2, x3, x4⟩ := e1.wk (w s1) d1
    refine ⟨fun i m σ' H' => m = xs.length - i ∧ i ≤ xs.length ∧ ∃ (t : τ) (s' : S) (I' N' : Hp), H' = ov N' I' ∧ Ex I2 I' ∧ Dis N' I' ∧ EnvG s' I' F N' σ' (ΓL t s') ∧ (forP (xs.drop i) t body s').sat (fun x s' => ∀ I' N' σ', Ex I I' → Dis N' I' → EnvG s' I' F N' σ' (ΓL x s') → D.nx σ' (ov N' I')),
      ⟨xs.length, rfl, Nat.zero_le _, t0, s1, I2, N2, x3.symm, Ex.refl I2, x2, x4, q⟩, ?_⟩
    rintro i m σ' H' ⟨rfl, hle, t, s', I', N', rfl, y1, y2, y3, y4⟩
    by_cases hlt : i < xs.length
    · have hx : xs[i]? = some xs[i] := List.getElem?_eq_getElem hlt
      have j1 := (jt I' N' (x1.trans y1) y2).1 i _ hx
      refine .inr ⟨j1.1, fun σ2 H2 => ∃ (t : τ) (s' : S) (I' N' : Hp), H2 = ov N' I' ∧ Ex I2 I' ∧ Dis N' I' ∧ EnvG s' I' F N' σ2 (ΓL t s') ∧ (forP (xs.drop (i + 1)) t body s').sat (fun x s' => ∀ I' N' σ', Ex I I' → Dis N' I' → EnvG s' I' F N' σ' (ΓL x s') → D.nx σ' (ov N' I')),
        fun σ2 H2 hN => ⟨xs.length - (i + 1), by omega, rfl, hlt, hN⟩, fun v H2 hy => ?_⟩
      obtain ⟨I3, rfl, z1, z2, z3⟩ := j1.2 v H2 hy
      refine (hg xs[i] t s').g s' I3 F N' σ' v (y3.up z1) z2 z3 _ fun σ3 e3 _ => ?_
      rw [List.drop_eq_getElem_cons hlt] at y4
      refine hb xs[i] t s' I3 F N' σ3 e3 z2 _ (R.sat_imp (sat_mb.mp y4) fun t' s2 q2 I4 N4 σ4 a4 d4 e4 => ?_)
      exact ⟨t', s2, I4, N4, rfl, (y1.trans z1).trans a4, d4, e4, q2⟩
    · have hi : i = xs.length := by omega
      subst hi
      rw [List.drop_length] at y4
      exact .inl ⟨(jt I' N' (x1.trans y1) y2).2, y4 I' N' σ' ((a1.trans x1).trans y1) y2 y3⟩)
theorem rc_for {wi : TI} {g : TG} {tb : TS} {Γ Γr : S → List Sl} {mx : Mn S (List α)} {t0 : τ} {body : α → τ → Mn S (Ct ρ τ τ)} {ΓL : τ → S → List Sl} {Γb : β → S → List Sl} {Γx : α → τ → S → List Sl} {js : List Nat} (hi : IM K wi Γ mx) (w : ∀ s, Wk (Γ s) (ΓL t0 s)) (hg : ∀ x t s, GT K g (ΓL t s) x (Γx x t s) js)
    (hb : ∀ x t, RC Ret tb (Γx x t) (body x t) Γr ΓL ΓL) : RC Ret (tFor wi g tb) Γ (mb mx fun xs => forC xs t0 body) Γr ΓL Γb := fun s I F N σ e d D q =>
  hi s I F N σ e d _ (R.sat_imp (sat_mb.mp q) fun xs s1 q J I1 N1 a1 d1 e1 jt => by
    obtain ⟨I2, N2, x1, x2, x3, x4⟩ := e1.wk (w s1) d1
    refine ⟨fun i m σ' H' => m = xs.length - i ∧ i ≤ xs.length ∧ ∃ (t : τ) (s' : S) (I' N' : Hp), H' = ov N' I' ∧ Ex I2 I' ∧ Dis N' I' ∧ EnvG s' I' F N' σ' (ΓL t s') ∧ (forC (xs.drop i) t body s').sat (CtQ Ret D F Γr ΓL Γb I),
      ⟨xs.length, rfl, Nat.zero_le _, t0, s1, I2, N2, x3.symm, Ex.refl I2, x2, x4, q⟩, ?_⟩
    rintro i m σ' H' ⟨rfl, hle, t, s', I', N', rfl, y1, y2, y3, y4⟩
    by_cases hlt : i < xs.length
    · have hx : xs[i]? = some xs[i] := List.getElem?_eq_getElem hlt
      have j1 := (jt I' N' (x1.trans y1) y2).1 i _ hx
      refine .inr ⟨j1.1, fun σ2 H2 => ∃ (t : τ) (s' : S) (I' N' : Hp), H2 = ov N' I' ∧ Ex I2 I' ∧ Dis N' I' ∧ EnvG s' I' F N' σ2 (ΓL t s') ∧ (forC (xs.drop (i + 1)) t body s').sat (CtQ Ret D F Γr ΓL Γb I),
        fun σ2 H2 hN => ⟨xs.length - (i + 1), by omega, rfl, hlt, hN⟩, fun v H2 hy => ?_⟩
      obtain ⟨I3, rfl, z1, z2, z3⟩ := j1.2 v H2 hy
      refine (hg xs[i] t s').g s' I3 F N' σ' v (y3.up z1) z2 z3 _ fun σ3 e3 _ => ?_
      rw [List.drop_eq_getElem_cons hlt] at y4
      refine hb xs[i] t s' I3 F N' σ3 e3 z2 _ (R.sat_imp (sat_mb.mp y4) fun c s2 q2 => ?_)
      have ex3 : Ex I I3 := ((a1.trans x1).trans y1).trans z1
      cases c with
      | rt y => exact fun v H4 I4 N4 σ4 a4 e4 r4 => q2 v H4 I4 N4 σ4 (ex3.trans a4) e4 r4
      | nx t' => exact fun I4 N4 σ4 a4 d4 e4 => ⟨t', s2, I4, N4, rfl, (y1.trans z1).trans a4, d4, e4, q2⟩
      | br t' => exact fun I4 N4 σ4 a4 d4 e4 => q2 I4 N4 σ4 (ex3.trans a4) d4 e4
    · have hi : i = xs.length := by omega
      subst hi
      rw [List.drop_length] at y4
      exact .inl ⟨(jt I' N' (x1.trans y1) y2).2, y4 I' N' σ' ((a1.trans x1).trans y1) y2 y3⟩)
/-- while, of so many turns at most -/
def whP {S τ : Type} : Nat → τ → (τ → Mn S Bool) → (τ → Mn S τ) → Mn S τ
  | 0, _, _, _ => mbad
  | n + 1, t, c, b => mb (c t) fun k => mi k (mb (b t) fun t' => whP n t' c b) (mp t)
theorem rp_while {tc : TT} {tb : TS} {Γ : S → List Sl} {n : Nat} {t0 : τ} {mc : τ → Mn S Bool} {body : τ → Mn S τ} {ΓL : τ → S → List Sl} (w : ∀ s, Wk (Γ s) (ΓL t0 s)) (hc : ∀ t, TM tc (ΓL t) (mc t)) (hb : ∀ t, RP tb (ΓL t) (body t) ΓL) :
    RP (tWhile tc tb) Γ (whP n t0 mc body) ΓL := fun s I F N σ e d D q => by
  obtain ⟨I2, N2, x1, x2, x3, x4⟩ := e.wk (w s) d
  refine ⟨fun m σ' H' => ∃ (t : τ) (s' : S) (I' N' : Hp), H' = ov N' I' ∧ Ex I2 I' ∧ Dis N' I' ∧ EnvG s' I' F N' σ' (ΓL t s') ∧ (whP m t mc body s').sat (fun x s' => ∀ I' N' σ', Ex I I' → Dis N' I' → EnvG s' I' F N' σ' (ΓL x s') → D.nx σ' (ov N' I')),
    ⟨n, t0, s, I2, N2, x3.symm, Ex.refl I2, x2, x4, q⟩, ?_⟩
  rintro m σ' H' ⟨t, s', I', N', rfl, y1, y2, y3, y4⟩
  cases m with
  | zero => exact y4.elim
  | succ m =>
    refine hc t s' I' F N' σ' y3 y2 _ (R.sat_imp (sat_mb.mp y4) fun k s2 q2 I3 N3 a3 d3 e3 => ?_)
    cases k with
    | true =>
      refine ⟨fun σ2 H2 => ∃ (t : τ) (s' : S) (I' N' : Hp), H2 = ov N' I' ∧ Ex I2 I' ∧ Dis N' I' ∧ EnvG s' I' F N' σ2 (ΓL t s') ∧ (whP m t mc body s').sat (fun x s' => ∀ I' N' σ', Ex I I' → Dis N' I' → EnvG s' I' F N' σ' (ΓL x s') → D.nx σ' (ov N' I')),
        fun σ2 H2 hN => ⟨m, Nat.lt_succ_self m, hN⟩, ?_⟩
      exact hb t s2 I3 F N3 σ' e3 d3 _ (R.sat_imp (sat_mb.mp q2) fun t' s3 q3 I4 N4 σ4 a4 d4 e4 => ⟨t', s3, I4, N4, rfl, (y1.trans a3).trans a4, d4, e4, q3⟩)
    | false => exact q2 I3 N3 σ' ((x1.trans y1).trans a3) d3 e3
/-- .. with ways out -/
def whC {S τ ρ β : Type} : Nat → τ → (τ → Mn S Bool) → (τ → Mn S (Ct ρ τ τ)) → Mn S (Ct ρ τ β)
  | 0, _, _, _ => mbad
  | n + 1, t, c, b => mb (c t) fun k => mi k (mb (b t) fun u => match u with
    | .rt y => mp (.rt y)
    | .nx t' => whC n t' c b
    | .br t' => mp (.nx t')) (mp (.nx t))
theorem rc_while {tc : TT} {tb : TS} {Γ Γr : S → List Sl} {n : Nat} {t0 : τ} {mc : τ → Mn S Bool} {body : τ → Mn S (Ct ρ τ τ)} {ΓL : τ → S → List Sl} {Γb : β → S → List Sl} (w : ∀ s, Wk (Γ s) (ΓL t0 s)) (hc : ∀ t, TM tc (ΓL t) (mc t)) (hb : ∀ t, RC Ret tb (ΓL t) (body t) Γr ΓL ΓL) :
    RC Ret (tWhile tc tb) Γ (whC n t0 mc body) Γr ΓL Γb := fun s I F N σ e d D q => by
  obtain ⟨I2, N2, x1, x2, x3, x4⟩ := e.wk (w s) d
  refine ⟨fun m σ' H' => ∃ (t : τ) (s' : S) (I' N' : Hp), H' = ov N' I' ∧ Ex I2 I' ∧ Dis N' I' ∧ EnvG s' I' F N' σ' (ΓL t s') ∧ (whC m t mc body s').sat (CtQ Ret D F Γr ΓL Γb I),
    ⟨n, t0, s, I2, N2, x3.symm, Ex.refl I2, x2, x4, q⟩, ?_⟩
  rintro m σ' H' ⟨t, s', I', N', rfl, y1, y2, y3, y4⟩
  cases m with
  | zero => exact y4.elim
  | succ m =>
    refine hc t s' I' F N' σ' y3 y2 _ (R.sat_imp (sat_mb.mp y4) fun k s2 q2 I3 N3 a3 d3 e3 => ?_)
    cases k with
    | true =>
      refine ⟨fun σ2 H2 => ∃ (t : τ) (s' : S) (I' N' : Hp), H2 = ov N' I' ∧ Ex I2 I' ∧ Dis N' I' ∧ EnvG s' I' F N' σ2 (ΓL t s') ∧ (whC m t mc body s').sat (CtQ Ret D F Γr ΓL Γb I),
        fun σ2 H2 hN => ⟨m, Nat.lt_succ_self m, hN⟩, ?_⟩
      refine hb t s2 I3 F N3 σ' e3 d3 _ (R.sat_imp (sat_mb.mp q2) fun u s3 q3 => ?_)
      have ex3 : Ex I I3 := (x1.trans y1).trans a3
      cases u with
      | rt y => exact fun v H4 I4 N4 σ4 a4 e4 r4 => q3 v H4 I4 N4 σ4 (ex3.trans a4) e4 r4
      | nx t' => exact fun I4 N4 σ4 a4 d4 e4 => ⟨t', s3, I4, N4, rfl, (y1.trans a3).trans a4, d4, e4, q3⟩
      | br t' => exact fun I4 N4 σ4 a4 d4 e4 => q3 I4 N4 σ4 (ex3.trans a4) d4 e4
    | false => exact q2 I3 N3 σ' ((x1.trans y1).trans a3) d3 e3
end

/-! ### comprehensions -/
theorem EnvOk.sub {I F : Hp} : ∀ {N : Hp} {σ : L2.St} {Γ : List Sl}, EnvOk I F N σ Γ → ∀ {a : Addr}, N a = none → F a = none
  | _, _, _, .nil, a, h => h
  | _, _, _, .no o e, a, h => EnvOk.sub e h
  | _, _, _, .im q e, a, h => EnvOk.sub e h
  | _, _, _, .ow q d e, a, h => EnvOk.sub e (ov_none h).2
def NoAt (Γ : List Sl) (vs : List Nat) : Prop := vs.all (fun v => match Γ[v]? with | some .no => true | _ => false) = true
theorem NoAt.at {Γ : List Sl} {vs : List Nat} (h : NoAt Γ vs) {v : Nat} (hv : v ∈ vs) : Γ[v]? = some .no := by
  have q := List.all_eq_true.mp h v hv
  cases e : Γ[v]? with
  | none => rw [e] at q; cases q
  | some a =>
    cases a with
    | no => rfl
    | im p => rw [e] at q; cases q
    | ow p => rw [e] at q; cases q
/-- slots of which nothing is known may hold anything -/
theorem EnvOk.ext {I F : Hp} : ∀ {N : Hp} {σ : L2.St} {Γ : List Sl} {σ' : L2.St}, EnvOk I F N σ Γ → σ.length = σ'.length → (∀ i : Nat, Γ[i]? ≠ some Sl.no → σ[i]? = σ'[i]?) → EnvOk I F N σ' Γ
  | _, _, _, σ', .nil, h, _ => by
    cases σ' with
    | nil => exact .nil
    | cons a b => simp at h
  | _, _, _, [], .no o e, h, _ => by simp at h
  | _, _, _, a :: σ', .no o e, h, g => .no a (EnvOk.ext e (by simpa using h) fun i hi => by have q := g (i + 1) (by simpa using hi); simpa using q)
  | _, _, _, [], .im q e, h, _ => by simp at h
  | _, _, _, a :: σ', .im q e, h, g => by
    have q0 := g 0 (by simp)
    have q1 : some _ = a := Option.some.inj q0
    subst q1
    exact .im q (EnvOk.ext e (by simpa using h) fun i hi => by have q := g (i + 1) (by simpa using hi); simpa using q)
  | _, _, _, [], .ow q d e, h, _ => by simp at h
  | _, _, _, a :: σ', .ow q d e, h, g => by
    have q0 := g 0 (by simp)
    have q1 : some _ = a := Option.some.inj q0
    subst q1
    exact .ow q d (EnvOk.ext e (by simpa using h) fun i hi => by have q := g (i + 1) (by simpa using hi); simpa using q)
theorem EnvOk.rewipe {I F N : Hp} {σ σ' : L2.St} {Γ : List Sl} {vs : List Nat} (e : EnvOk I F N σ Γ) (h : NoAt Γ vs) (w : wipe σ vs = wipe σ' vs) : EnvOk I F N σ' Γ := by
  refine e.ext ?_ fun i hi => ?_
  · have l := congrArg List.length w
    rw [wipe_length, wipe_length] at l
    exact l
  · have hv : i ∉ vs := fun q => hi (h.at q)
    have g := congrArg (fun z : L2.St => z[i]?) w
    have g2 : (wipe σ vs)[i]? = (wipe σ' vs)[i]? := g
    rw [wipe_get, wipe_get, if_neg hv, if_neg hv] at g2
    exact g2
section
variable {S : Type} [SH S] {s : S} {I F N : Hp} {σ : L2.St} {Γ : List Sl}
theorem EnvG.sub (h : EnvG s I F N σ Γ) {a : Addr} (n : N a = none) : F a = none := let ⟨_, _, _, e⟩ := h; (ov_none (e.sub n)).2
theorem EnvG.ext {σ' : L2.St} (h : EnvG s I F N σ Γ) (l : σ.length = σ'.length) (q : ∀ i : Nat, Γ[i]? ≠ some Sl.no → σ[i]? = σ'[i]?) : EnvG s I F N σ' Γ := let ⟨G, h1, h2, e⟩ := h; ⟨G, h1, h2, e.ext l q⟩
theorem EnvG.rewipe {σ' : L2.St} {vs : List Nat} (h : EnvG s I F N σ Γ) (n : NoAt Γ vs) (w : wipe σ vs = wipe σ' vs) : EnvG s I F N σ' Γ := let ⟨G, h1, h2, e⟩ := h; ⟨G, h1, h2, e.rewipe n w⟩
end
section
variable {S α β : Type} [SH S] [Rp α] [Rp β]
def cmGo {S α β : Type} : List α → List β → (α → Mn S Bool) → (α → Mn S β) → Mn S (List β)
  | [], acc, _, _ => mp acc
  | x :: xs, acc, c, f => mb (c x) fun k => mi k (mb (f x) fun y => cmGo xs (acc ++ [y]) c f) (cmGo xs acc c f)
/-- [f(x) for x in xs if c(x)] -/
def cmP {S α β : Type} (xs : List α) (c : α → Mn S Bool) (f : α → Mn S β) : Mn S (List β) := mb (mc (decide (xs.length ≤ 16000000)) ()) fun _ => cmGo xs [] c f
theorem em_lc {wi : TI} {g : TG} {tt : TT} {te : TE} {vs : List Nat} {Γ : S → List Sl} {mx : Mn S (List α)} {c : α → Mn S Bool} {f : α → Mn S β} {Γx : α → S → List Sl} {js : List Nat} (hi : IM K wi Γ mx) (hv : ∀ s, NoAt (Γ s) vs)
    (hg : ∀ x s, GT K g (Γ s) x (Γx x s) js) (hj : js.all (fun j => vs.contains j) = true) (hc : ∀ x, TM tt (Γx x) (c x)) (hf : ∀ x, EM K te (Γx x) (f x)) (wb : ∀ x s, Wk (Γx x s) (Γ s)) : EM K (tLc wi g tt te vs) Γ (mb mx fun xs => cmP xs c f) := fun s I F N σ e d Q q =>
  hi s I F N σ e d _ (R.sat_imp (sat_mb.mp q) fun xs s1 q J I1 N1 a1 d1 e1 jt => by
    obtain ⟨hlen, q⟩ := sat_mc.mp (sat_mb.mp q)
    have hlen := of_decide_eq_true hlen
    intro D hD
    obtain ⟨hD1, hD2⟩ := ov_none hD
    have hDF : F D = none := e1.sub hD1
    have hjs : ∀ j ∈ js, j ∈ vs := fun j hj' => by simpa using List.all_eq_true.mp hj j hj'
    refine ⟨fun i m H' => m = xs.length - i ∧ i ≤ xs.length ∧ ∃ (s' : S) (I' N' : Hp) (acc : List β) (us : List V), H' = ov (ov (sing D (.lst us)) N') I' ∧ Ex I1 I' ∧ Dis N' I' ∧ I' D = none ∧ N' D = none ∧ EnvG s' I' F N' σ (Γ s') ∧ Rs K acc I' us ∧ acc.length ≤ i ∧
      (cmGo (xs.drop i) acc c f s').sat (fun x s' => ∀ v I' M', Ex I I' → Dis M' I' → EnvG s' I' F M' σ (Γ s') → Rp.r K x I' v → Q v (ov M' I')),
      ⟨xs.length, rfl, Nat.zero_le _, s1, I1, N1, [], [], by rw [upd_sing, ov_assoc], Ex.refl I1, d1, hD2, hD1, e1, .nil, Nat.le_refl _, q⟩, ?_⟩
    rintro i m H' ⟨rfl, hle, s', I', N', acc, us, rfl, y1, y2, y3, y4, y5, y6, y7, y8⟩
    have dG : Dis (sing D (.lst us)) N' := dis_sing y4
    have dGI : Dis (ov (sing D (.lst us)) N') I' := dis_ov (dis_sing y3) y2
    by_cases hlt : i < xs.length
    · have hx : xs[i]? = some xs[i] := List.getElem?_eq_getElem hlt
      have j1 := (jt I' _ y1 dGI).1 i _ hx
      refine .inr ⟨j1.1, fun H' => ∃ (s' : S) (I' N' : Hp) (acc : List β) (us : List V), H' = ov (ov (sing D (.lst us)) N') I' ∧ Ex I1 I' ∧ Dis N' I' ∧ I' D = none ∧ N' D = none ∧ EnvG s' I' F N' σ (Γ s') ∧ Rs K acc I' us ∧ acc.length ≤ i + 1 ∧
        (cmGo (xs.drop (i + 1)) acc c f s').sat (fun x s' => ∀ v I' M', Ex I I' → Dis M' I' → EnvG s' I' F M' σ (Γ s') → Rp.r K x I' v → Q v (ov M' I')), fun H' hN => ⟨xs.length - (i + 1), by omega, rfl, hlt, hN⟩, fun v H2 hy => ?_⟩
      obtain ⟨I3, rfl, z1, z2, z3⟩ := j1.2 v H2 hy
      have ew : EnvG s' I3 (ov (sing D (.lst us)) F) (ov (sing D (.lst us)) N') (wipe σ vs) (Γ s') := by
        have e3 := (y5.up z1).frame dG
        refine e3.rewipe (hv s') ?_
        rw [wipe_wipe]
      refine (hg xs[i] s').g s' I3 _ _ _ v ew z2 z3 _ fun σ3 e3 w3 => ?_
      have w4 : wipe σ3 vs = wipe σ vs := by rw [w3 vs hjs, wipe_wipe]
      refine ⟨w4, ?_⟩
      rw [List.drop_eq_getElem_cons hlt] at y8
      refine hc xs[i] s' I3 _ _ σ3 e3 z2 _ (R.sat_imp (sat_mb.mp y8) fun k s2 q2 I4 N4 a4 d4 e4 => ?_)
      have back : ∀ {I5 M5 : Hp} {s5 : S}, EnvG s5 I5 (ov (sing D (.lst us)) F) M5 σ3 (Γx xs[i] s5) → Dis M5 I5 → ∃ I6 N6, Ex I5 I6 ∧ ov M5 I5 = ov (ov (sing D (.lst us)) N6) I6 ∧ Dis N6 I6 ∧ I6 D = none ∧ N6 D = none ∧ EnvG s5 I6 F N6 σ (Γ s5) := fun {I5 M5 s5} e5 d5 => by
        obtain ⟨I6, M6, x1, x2, x3, x4⟩ := e5.wk (wb xs[i] s5) d5
        obtain ⟨N6, h1, h2, h3⟩ := x4.unframe (dis_sing hDF)
        subst h1
        obtain ⟨x5, x6⟩ := dis_ov_l x2
        exact ⟨I6, N6, x1, x3.symm, x6, x5.some_l sing_same, h2.some_l sing_same, h3.rewipe (hv s5) w4⟩
      cases k with
      | true =>
        show te σ3 (ov N4 I4) _
        refine hf xs[i] s2 I4 _ N4 σ3 e4 d4 _ (R.sat_imp (sat_mb.mp q2) fun y s3 q3 u I5 N5 a5 d5 e5 r5 => ?_)
        obtain ⟨I6, N6, b1, b2, b3, b4, b5, b6⟩ := back e5 d5
        refine ⟨us, ?_, ?_, s3, I6, N6, acc ++ [y], us ++ [u], ?_, ((((y1.trans z1).trans a4).trans a5).trans b1), b3, b4, b5, b6, (rs_up (((z1.trans a4).trans a5).trans b1) y6).append (.cons (Rp.up b1 r5) .nil), by rw [List.length_append]; simpa using y7, q3⟩
        · rw [b2]; exact ov_l (ov_l sing_same)
        · rw [← y6.length]
          exact Nat.lt_of_le_of_lt (Nat.le_trans y7 (Nat.le_trans (Nat.le_of_lt hlt) hlen)) (by decide)
        · rw [b2, upd_own]
      | false =>
        obtain ⟨I6, N6, b1, b2, b3, b4, b5, b6⟩ := back e4 d4
        exact ⟨s2, I6, N6, acc, us, b2, ((y1.trans z1).trans a4).trans b1, b3, b4, b5, b6, rs_up ((z1.trans a4).trans b1) y6, by omega, q2⟩
    · have hi : i = xs.length := by omega
      subst hi
      rw [List.drop_length] at y8
      refine .inl ⟨(jt I' _ y1 dGI).2, ?_⟩
      have dG2 : Dis (sing D (.lst us)) I' := dis_sing y3
      have e9 : ov (ov (sing D (.lst us)) N') I' = ov N' (ov (sing D (.lst us)) I') := by rw [ov_comm dG, ov_assoc]
      rw [e9]
      exact y8 _ _ N' ((a1.trans y1).trans (ex_ov dG2)) (dis_ov_r dG.symm y2) (y5.up (ex_ov dG2)) ⟨D, us, rfl, ov_l sing_same, rs_up (ex_ov dG2) y6⟩)
theorem tm_yes {Γ : S → List Sl} : TM tYes Γ (mp true) := fun s I F N σ e d Q q => q I N (Ex.refl I) d e
end

/-! ### a def's body keeps its promise -/
def tagL : List V → List Sl → List Sl
  | v :: vs, .ow P :: Γ => .ow (P.at v) :: tagL vs Γ
  | _ :: vs, a :: Γ => a :: tagL vs Γ
  | _, Γ => Γ
def tagR : List V → List Sl → List Sl
  | v :: vs, .ow P :: Γ => .ow (P.at v) :: tagR vs Γ
  | _ :: vs, .im _ :: Γ => .no :: tagR vs Γ
  | _ :: vs, a :: Γ => a :: tagR vs Γ
  | _, Γ => Γ
theorem EnvOk.tag {I F : Hp} : ∀ {vs : List V} {N : Hp} {Γ : List Sl}, EnvOk I F N (vs.map some) Γ → EnvOk I F N (vs.map some) (tagL vs Γ)
  | [], _, _, .nil => .nil
  | v :: vs, N, Γ, e => by
    have e1 : EnvOk I F N (some v :: vs.map some) Γ := e
    show EnvOk I F N (some v :: vs.map some) (tagL (v :: vs) Γ)
    cases e1 with
    | no o e2 => exact .no _ (EnvOk.tag e2)
    | im q e2 => exact .im q (EnvOk.tag e2)
    | ow q d e2 => exact .ow ⟨rfl, q⟩ d (EnvOk.tag e2)
theorem EnvOk.untag {S : Type} {s s' : S} {I I' F F' : Hp} (x : Ex I I') {k : Nat} : ∀ {As : List (Ar S)} {vs : List V} {N N' : Hp} {σ' : L2.St}, EnvOk I F N (vs.map some) (As.map (Ar.sl s)) → EnvOk I' F' N' σ' (tagR vs (As.map (Ar.sl s')) ++ List.replicate k .no) → EnvOk I' F' N' (vs.map some) (As.map (Ar.sl s'))
  | [], [], _, _, _, _, e' => by
    cases EnvOk.nos (k := k) e'
    exact .nil
  | [], _ :: _, _, _, _, e, _ => by cases e
  | .im p :: As, v :: vs, _, _, σ', e, e' => by
    have e1 : EnvOk I F _ (some v :: vs.map some) (.im p :: As.map (Ar.sl s)) := e
    have e2 : EnvOk I' F' _ σ' (.no :: (tagR vs (As.map (Ar.sl s')) ++ List.replicate k .no)) := e'
    cases e1 with
    | im q e1 =>
      cases e2 with
      | no o e2 => exact .im (p.up x q) (EnvOk.untag x e1 e2)
  | .im p :: As, [], _, _, _, e, _ => by cases e
  | .ow P :: As, [], _, _, _, e, _ => by cases e
  | .ow P :: As, v :: vs, _, _, σ', e, e' => by
    have e1 : EnvOk I F _ (some v :: vs.map some) (.ow (P s) :: As.map (Ar.sl s)) := e
    have e2 : EnvOk I' F' _ σ' (.ow ((P s').at v) :: (tagR vs (As.map (Ar.sl s')) ++ List.replicate k .no)) := e'
    cases e1 with
    | ow q d e1 =>
      cases e2 with
      | ow q2 d2 e2 =>
        obtain ⟨q3, q4⟩ := q2
        cases q3
        exact .ow q4 d2 (EnvOk.untag x e1 e2)
theorem EnvG.tag {S : Type} [SH S] {s : S} {I F N : Hp} {vs : List V} {Γ : List Sl} (h : EnvG s I F N (vs.map some) Γ) : EnvG s I F N (vs.map some) (tagL vs Γ) := let ⟨G, h1, h2, e⟩ := h; ⟨G, h1, h2, e.tag⟩
theorem EnvG.untag {S : Type} [SH S] {s s' : S} {I I' F F' : Hp} (x : Ex I I') {k : Nat} {As : List (Ar S)} {vs : List V} {N N' : Hp} {σ' : L2.St} (h : EnvG s I F N (vs.map some) (As.map (Ar.sl s))) (h' : EnvG s' I' F' N' σ' (tagR vs (As.map (Ar.sl s')) ++ List.replicate k .no)) : EnvG s' I' F' N' (vs.map some) (As.map (Ar.sl s')) :=
  let ⟨_, _, _, e⟩ := h; let ⟨G, h1, h2, e'⟩ := h'; ⟨G, h1, h2, EnvOk.untag x e e'⟩
theorem prom_ok {S ρ ι : Type} [SH S] {Ret : RetT ρ} {As : ι → List (Ar S)} {m : ι → Mn S ρ} {t : TS} {N : List Str} {vs : List V} {H : Hp} {Q : VK} {E : XK} {n : Nat} (k : Nat) (hA : ∀ i, (As i).length = n) (hk : N.length - n = k)
    (h : ∀ i, RN Ret t (fun s => tagL vs ((As i).map (Ar.sl s)) ++ List.replicate k .no) (m i) (fun s => tagR vs ((As i).map (Ar.sl s)) ++ List.replicate k .no)) (p : Prom Ret As m vs H Q E) : t { nx := fun _ H' => Q .non H', rt := Q } (L2.start N vs) H := by
  have hl := prom_len hA vs H Q E p
  obtain ⟨i, s, I, F, M, rfl, d, e, q⟩ := p
  have e0 : L2.start N vs = vs.map some ++ List.replicate k none := by unfold L2.start; rw [hl, hk]
  rw [e0]
  exact h i s I F M _ (e.tag.app k) d _ (fun σ H q => q) (R.sat_imp q fun x s' q v H' I' N' σ' a1 e1 r1 => q v H' I' N' a1 (e.untag a1 e1) r1)
end
end Mir

/-! Mir6: owned things made, stored, changed; built-ins; calls by names -/
namespace Mir
open PySem L2
section
variable {K : PySem.W.Frag}
/-! ### owned things -/
section
variable {S ρ α β ζ τ : Type} [SH S] [Rp α] [Rp β] {Γ : S → List Sl} {te ta tb : TE} {tl : TA} {xs : List α}
/-- handed back as owned: so it may be kept as it is -/
theorem em_own {m : Mn S α} {P : α → OP} (h : EO te Γ m (rOw P)) (fr : ∀ x I a Ma, Dis Ma I → (P x).r I a Ma → Rp.r K x (ov Ma I) (.ref a)) : EM K te Γ m := fun s I F N σ e d Q q => h s I F N σ e d Q (R.sat_imp q fun x s' q v H' I' N' a1 e1 ⟨a, Ma, h1, h2, h3, h4, h5⟩ => by
  obtain ⟨y1, y2⟩ := dis_ov_l h3
  subst h1 h4
  have e9 : ov (ov Ma N') I' = ov N' (ov Ma I') := by rw [ov_comm h2, ov_assoc]
  rw [e9]
  exact q _ _ N' (a1.trans (ex_ov y1)) (dis_ov_r h2.symm y2) (e1.up (ex_ov y1)) (fr x I' a Ma y1 h5))
theorem em_ownL {m : Mn S (List α)} (h : EO te Γ m (rOw (ol K))) : EM K te Γ m := em_own h fun x I a Ma d q => fr_ol I a Ma d q
/-- a new list -/
theorem new_list {I N : Hp} {p : Addr} {vs : List V} (d : Dis N I) (hp : ov N I p = none) (r : Rs K xs I vs) : rOw (ol K) xs (.ref p) I N (upd (ov N I) p (.lst vs)) := by
  obtain ⟨h1, h2⟩ := ov_none hp
  exact ⟨p, sing p (.lst vs), rfl, dis_sing h1, dis_ov (dis_sing h2) d, by rw [upd_sing, ov_assoc], vs, rfl, r⟩
theorem eo_lst (h : ∀ s, AP tl (Γ s) (xs.map (pv K))) (hl : xs.length ≤ 1000 := by decide) : EO (tLst tl) Γ (mp xs) (rOw (ol K)) := fun s I F N σ e d Q q => h s I F N σ e d _ fun vs I1 a1 d1 r1 => by
  have r := rs_of r1
  exact ⟨by rw [← r.length]; exact sz2 hl, fun p hp => q _ _ I1 N a1 (e.up a1) (new_list d1 hp r)⟩
theorem eo_lstM {m : Mn S ζ} {f : ζ → List α} (h : AM tl Γ m fun z => (f z).map (pv K)) (hl : ∀ z, (f z).length ≤ 1000 := by intro _; decide) : EO (tLst tl) Γ (mb m fun z => mp (f z)) (rOw (ol K)) := fun s I F N σ e d Q q => h s I F N σ e d _ (R.sat_imp (sat_mb.mp q) fun z s1 q vs I1 N1 a1 d1 e1 r1 => by
  have r := rs_of r1
  exact ⟨by rw [← r.length]; exact sz2 (hl z), fun p hp => q _ _ I1 N1 a1 e1 (new_list d1 hp r)⟩)
/-- a list of written values of several types -/
theorem eo_hl {x : ρ} {P : ρ → OP} {ps : List PV} {us : List V} (h : ∀ s, AP tl (Γ s) ps) (hu : ∀ I vs, All2 (fun (p : PV) v => p.r I v) ps vs → vs = us) (hP : P x = hl us) (hl : us.length ≤ 1000 := by decide) : EO (tLst tl) Γ (mp x) (rOw P) := fun s I F N σ e d Q q => h s I F N σ e d _ fun vs I1 a1 d1 r1 => by
  have e1 := hu _ _ r1
  subst e1
  refine ⟨sz2 hl, fun p hp => ?_⟩
  obtain ⟨h1, h2⟩ := ov_none hp
  refine q _ _ I1 N a1 (e.up a1) ⟨p, sing p (.lst vs), rfl, dis_sing h1, dis_ov (dis_sing h2) d1, by rw [upd_sing, ov_assoc], ?_⟩
  rw [hP]
  rfl
theorem eo_hlM {m : Mn S ζ} {f : ζ → ρ} {P : ρ → OP} {ps : ζ → List PV} {us : ζ → List V} (h : AM tl Γ m ps) (hu : ∀ z I vs, All2 (fun (p : PV) v => p.r I v) (ps z) vs → vs = us z) (hP : ∀ z, P (f z) = Mir.hl (us z)) (hl : ∀ z, (us z).length ≤ 1000 := by intro _; decide) : EO (tLst tl) Γ (mb m fun z => mp (f z)) (rOw P) := fun s I F N σ e d Q q => h s I F N σ e d _ (R.sat_imp (sat_mb.mp q) fun z s1 q vs I1 N1 a1 d1 e1 r1 => by
  have e2 := hu z _ _ r1
  subst e2
  refine ⟨sz2 (hl z), fun p hp => ?_⟩
  obtain ⟨h1, h2⟩ := ov_none hp
  refine q _ _ I1 N1 a1 e1 ⟨p, sing p (.lst _), rfl, dis_sing h1, dis_ov (dis_sing h2) d1, by rw [upd_sing, ov_assoc], ?_⟩
  rw [hP]
  rfl)
/-- x = e, e something owned -/
theorem rp_take {i : Nat} {m : Mn S ρ} {P : ρ → OP} {Γ' : ρ → S → List Sl} (h : EO te Γ m (rOw P)) (hn : ∀ s, NotOw (Γ s) i) (hl : ∀ s, i < (Γ s).length) (hΓ : ∀ x s, (Γ s).set i (.ow (P x)) = Γ' x s) : RP (tAsg te (gName i)) Γ m Γ' := fun s I F N σ e d D q =>
  h s I F N σ e d _ (R.sat_imp q fun x s' q v H' I' N' a1 e1 ⟨a, Ma, h1, h2, h3, h4, h5⟩ => by
    subst h1 h4
    refine q I' _ _ a1 h3 ?_
    rw [← hΓ]
    exact e1.take h5 (hn s') (hl s') h2)
/-! ### what is owned, read: an expression of a written type -/
def noOw (Γ : List Sl) : Bool := Γ.all fun a => !isOw a
theorem EnvOk.noOw {I F : Hp} : ∀ {N : Hp} {σ : L2.St} {Γ : List Sl}, EnvOk I F N σ Γ → Mir.noOw Γ = true → N = F
  | _, _, _, .nil, _ => rfl
  | _, _, _, .no o e, h => EnvOk.noOw e h
  | _, _, _, .im q e, h => EnvOk.noOw e h
  | _, _, _, .ow q d e, h => by cases h
theorem EnvOk.subF {I F : Hp} : ∀ {N : Hp} {σ : L2.St} {Γ : List Sl}, EnvOk I F N σ Γ → ∀ {a : Addr} {o : HO}, F a = some o → N a = some o
  | _, _, _, .nil, a, o, h => h
  | _, _, _, .no _ e, a, o, h => EnvOk.subF e h
  | _, _, _, .im q e, a, o, h => EnvOk.subF e h
  | _, _, _, .ow q d e, a, o, h => by
    have h1 := EnvOk.subF e h
    rw [ov_r (d.some_r h1)]
    exact h1
theorem bor {I F N : Hp} {σ : L2.St} {Γs Γ0 : List Sl} (e : EnvOk I F N σ Γs) (d : Dis N I) (w : Wk Γs Γ0) (n : noOw Γ0 = true) : ∃ I1, Dis F I1 ∧ EnvOk I1 F F σ Γ0 ∧ ov F I1 = ov N I ∧ (∀ I2, Ex I1 I2 → Dis F I2 → ∃ I3, Ex I I3 ∧ Dis N I3 ∧ ov N I3 = ov F I2) := by
  obtain ⟨I1, N1, x1, x2, x3, x4⟩ := e.wk w d
  cases x4.noOw n
  refine ⟨I1, x2, x4, x3, fun I2 a2 d2 => ⟨fun a => match N a with
    | some _ => none
    | none => I2 a, fun a o h => ?_, fun a => ?_, ?_⟩⟩
  · have hN := d.some_r h
    show (match N a with | some _ => none | none => I2 a) = some o
    rw [hN]
    exact a2 a o (x1 a o h)
  · cases hN : N a with
    | none => exact .inl rfl
    | some o =>
      refine .inr ?_
      show (match N a with | some _ => none | none => I2 a) = none
      rw [hN]
  · funext a
    cases hN : N a with
    | none =>
      rw [ov_r hN]
      show (match N a with | some _ => none | none => I2 a) = _
      rw [hN, ov_r (e.sub hN)]
    | some o =>
      rw [ov_l hN]
      cases hF : F a with
      | some u =>
        rw [ov_l hF]
        have := e.subF hF
        rw [hN] at this
        exact this
      | none =>
        rw [ov_r hF]
        have h1 : ov F I1 a = ov N I a := by rw [x3]
        rw [ov_l hN, ov_r hF] at h1
        exact (a2 a o h1).symm
theorem em_bor [Sc α] {Γ0 : List Sl} {m0 : Mn Unit α} (w : ∀ s, Wk (Γ s) Γ0) (n : noOw Γ0 = true) (h : EM K te (fun _ : Unit => Γ0) m0) : EM K te Γ (mu m0) := fun s I F N σ e d Q q => by
  have ec := e
  obtain ⟨G, _, _, e0⟩ := ec
  obtain ⟨I1, x1, x2, x3, x4⟩ := bor e0 d (w s) n
  rw [← x3]
  refine h () I1 _ _ σ (EnvG.of x2) x1 Q (R.sat_imp (sat_mu.mp q) fun x _ q v I2 N2 a2 d2 e2 r2 => ?_)
  cases e2.unit.noOw n
  obtain ⟨I3, y1, y2, y3⟩ := x4 I2 a2 d2
  rw [← y3]
  exact q v I3 N y1 y2 (e.up y1) (Sc.eq.mpr (Sc.eq.mp r2))
theorem tm_bor {tt : TT} {Γ0 : List Sl} {m0 : Mn Unit Bool} (w : ∀ s, Wk (Γ s) Γ0) (n : noOw Γ0 = true) (h : TM tt (fun _ : Unit => Γ0) m0) : TM tt Γ (mu m0) := fun s I F N σ e d Q q => by
  have ec := e
  obtain ⟨G, _, _, e0⟩ := ec
  obtain ⟨I1, x1, x2, x3, x4⟩ := bor e0 d (w s) n
  rw [← x3]
  refine h () I1 _ _ σ (EnvG.of x2) x1 Q (R.sat_imp (sat_mu.mp q) fun x _ q I2 N2 a2 d2 e2 => ?_)
  cases e2.unit.noOw n
  obtain ⟨I3, y1, y2, y3⟩ := x4 I2 a2 d2
  rw [← y3]
  exact q I3 N y1 y2 (e.up y1)
theorem ep_bor [Sc α] {Γ1 Γ0 : List Sl} {x : α} (w : Wk Γ1 Γ0) (n : noOw Γ0 = true) (h : EP te Γ0 (pv K x)) : EP te Γ1 (pv K x) := fun I F N σ e d Q q => by
  obtain ⟨F0, e0⟩ := e
  obtain ⟨I1, x1, x2, x3, x4⟩ := bor e0 d w n
  rw [← x3]
  refine h I1 F0 F0 σ x2.x x1 Q fun v I2 a2 d2 r2 => ?_
  obtain ⟨I3, y1, y2, y3⟩ := x4 I2 a2 d2
  rw [← y3]
  exact q v I3 y1 y2 (Sc.eq.mpr (Sc.eq.mp r2))
theorem tp_bor {tt : TT} {Γ1 Γ0 : List Sl} {b : Bool} (w : Wk Γ1 Γ0) (n : noOw Γ0 = true) (h : TP tt Γ0 b) : TP tt Γ1 b := fun I F N σ e d Q q => by
  obtain ⟨F0, e0⟩ := e
  obtain ⟨I1, x1, x2, x3, x4⟩ := bor e0 d w n
  rw [← x3]
  refine h I1 F0 F0 σ x2.x x1 Q fun I2 a2 d2 => ?_
  obtain ⟨I3, y1, y2, y3⟩ := x4 I2 a2 d2
  rw [← y3]
  exact q I3 y1 y2

/-! ### an owned list changes -/
/-- what a slot owns changes in place: j the slot -/
theorem own_upd {S : Type} [SH S] {s : S} {P' : OP} {I F N I' N' : Hp} {Γs : List Sl} {σ : L2.St} {j : Nat} {a : Addr} {vs us : List V} (e : EnvG s I F N σ Γs) (d : Dis N I) {P : OP} (hj : Γs[j]? = some (.ow P)) (hσ : σ[j]? = some (some (.ref a))) (hP : ∀ I a Ma, P.r I a Ma → ∃ vs, Ma = sing a (.lst vs)) (hP' : P'.r I a (sing a (.lst us))) :
    ∃ N', upd (ov N I) a (.lst us) = ov N' I ∧ Dis N' I ∧ EnvG s I F N' σ (Γs.set j (.ow P')) := by
  obtain ⟨a', Ma, M', h1, h2, h3, h4, h5, _⟩ := e.foc hj
  rw [hσ] at h1
  cases h1
  obtain ⟨ws, hw⟩ := hP _ _ _ h2
  subst hw h4
  obtain ⟨y1, y2⟩ := dis_ov_l d
  have z : Dis (sing a (.lst us)) I := dis_sing (y1.some_l sing_same)
  exact ⟨_, upd_own, dis_ov z y2, h5 I P' _ (Ex.refl I) (dis_sing (h3.some_l sing_same)) hP'⟩
theorem own_at {S : Type} [SH S] {s : S} {I F N : Hp} {Γs : List Sl} {σ : L2.St} {j : Nat} (e : EnvG s I F N σ Γs) (hj : Γs[j]? = some (.ow (ol K xs))) : ∃ a vs, σ[j]? = some (some (.ref a)) ∧ N a = some (.lst vs) ∧ Rs K xs I vs := by
  obtain ⟨a, Ma, M', h1, ⟨vs, h2, h3⟩, _, h4, _⟩ := e.foc hj
  exact ⟨a, vs, h1, by rw [h4, h2]; exact ov_l sing_same, h3⟩
theorem ol_sing : ∀ I a Ma, (ol K xs).r I a Ma → ∃ vs, Ma = sing a (.lst vs) := fun I a Ma ⟨vs, h, _⟩ => ⟨vs, h⟩
theorem sz16 {n : Nat} (h : n ≤ 16000000) : n < sizeLine := Nat.lt_of_le_of_lt h (by decide)
theorem sz16' {n : Nat} (h : n ≤ 16000000) : n ≤ sizeLine := Nat.le_of_lt (sz16 h)
def lenOk (n : Nat) : Bool := decide (n ≤ 16000000)
/-- xs.append(e) -/
theorem rp_app {j : Nat} {m : Mn S α} {Γ' : List α → S → List Sl} (hj : ∀ s, (Γ s)[j]? = some (.ow (ol K xs))) (h : EM K te Γ m) (hΓ : ∀ ys s, (Γ s).set j (.ow (ol K ys)) = Γ' ys s) : RP (tDrop (tBM K "list" rAppend (tVar j) (tCons te tNil))) Γ (mb m fun x => mc (lenOk xs.length) (xs ++ [x])) Γ' := fun s I F N σ e d D q => by
  obtain ⟨a, vs, h1, h2, h3⟩ := own_at e (hj s)
  refine ⟨_, h1, .inl ⟨rfl, vs, SqL.of (ov_l h2)⟩, h s I F N σ e d _ (R.sat_imp (sat_mb.mp q) fun x s1 q v I1 N1 a1 d1 e1 r1 => ?_)⟩
  obtain ⟨c, q⟩ := sat_mc.mp q
  have c := of_decide_eq_true c
  obtain ⟨a', us, h1', h2', h3'⟩ := own_at e1 (hj s1)
  rw [h1] at h1'
  cases h1'
  refine ⟨a, us, v, rfl, rfl, ov_l h2', sz16 (by rw [← h3'.length]; exact c), ?_⟩
  obtain ⟨N2, x1, x2, x3⟩ := own_upd (P' := ol K (xs ++ [x])) (us := us ++ [v]) (vs := us) (I' := I1) (N' := N1) e1 d1 (hj s1) h1 ol_sing ⟨_, rfl, h3'.append (.cons r1 .nil)⟩
  rw [x1]
  exact q I1 N2 σ a1 x2 (by rw [← hΓ]; exact x3)
/-- xs[i] = e -/
theorem rp_seti {j : Nat} {m : Mn S α} {mi' : Mn S Int} {Γ' : List α → S → List Sl} (hj : ∀ s, (Γ s)[j]? = some (.ow (ol K xs))) (h : EM K te Γ m) (h2 : EM K tb Γ mi') (hΓ : ∀ ys s, (Γ s).set j (.ow (ol K ys)) = Γ' ys s) : RP (tAsg te (gSub (tVar j) tb rSetL)) Γ (mb m fun x => mb mi' fun i => mo ((ixN xs.length i).map fun k => xs.set k x)) Γ' := fun s I F N σ e d D q =>
  h s I F N σ e d _ (R.sat_imp (sat_mb.mp q) fun x s1 q v I1 N1 a1 d1 e1 r1 => by
    obtain ⟨a, vs, g1, g2, g3⟩ := own_at e1 (hj s1)
    refine ⟨_, g1, h2 s1 I1 F N1 σ e1 d1 _ (R.sat_imp (sat_mb.mp q) fun i s2 q w I2 N2 a2 d2 e2 r2 => ?_)⟩
    obtain ⟨ys, hy, q⟩ := sat_mo.mp q
    obtain ⟨k, hk, rfl⟩ := Option.map_eq_some_iff.mp hy
    obtain ⟨a', us, g1', g2', g3'⟩ := own_at e2 (hj s2)
    rw [g1] at g1'
    cases g1'
    refine ⟨a, us, i, k, rfl, r2, ov_l g2', by rw [← g3'.length]; exact hk, ?_⟩
    obtain ⟨N3, x1, x2, x3⟩ := own_upd (P' := ol K (xs.set k x)) (us := us.set k v) (vs := us) (I' := I2) (N' := N2) e2 d2 (hj s2) g1 ol_sing ⟨_, rfl, All2.set (F := fun x v => Rp.r K x I2 v) (Rp.up a2 r1) k g3'⟩
    rw [x1]
    exact q I2 N3 σ (a1.trans a2) x2 (by rw [← hΓ]; exact x3))
/-- xs.pop(i), the item thrown away -/
theorem rp_popD {j : Nat} {m : Mn S Int} {Γ' : List α → S → List Sl} (hj : ∀ s, (Γ s)[j]? = some (.ow (ol K xs))) (h : EM K te Γ m) (hΓ : ∀ ys s, (Γ s).set j (.ow (ol K ys)) = Γ' ys s) : RP (tDrop (tBM K "list" rPopAt (tVar j) (tCons te tNil))) Γ (mb m fun i => mo (if decide (-(2 ^ 63) ≤ i ∧ i < 2 ^ 63) = true then (ixN xs.length i).map fun k => xs.eraseIdx k else none)) Γ' := fun s I F N σ e d D q => by
  obtain ⟨a, vs, h1, h2, h3⟩ := own_at e (hj s)
  refine ⟨_, h1, .inl ⟨rfl, vs, SqL.of (ov_l h2)⟩, h s I F N σ e d _ (R.sat_imp (sat_mb.mp q) fun i s1 q v I1 N1 a1 d1 e1 r1 => ?_)⟩
  obtain ⟨ys, hy, q⟩ := sat_mo.mp q
  by_cases c : decide (-(2 ^ 63) ≤ i ∧ i < 2 ^ 63) = true
  · rw [if_pos c] at hy
    have c := of_decide_eq_true c
    obtain ⟨k, hk, rfl⟩ := Option.map_eq_some_iff.mp hy
    obtain ⟨a', us, h1', h2', h3'⟩ := own_at e1 (hj s1)
    rw [h1] at h1'
    cases h1'
    rw [h3'.length] at hk
    obtain ⟨k1, k2, _⟩ := ixN_seq hk
    refine ⟨a, us, i, k, us[k], rfl, by rw [show v = V.int i from r1], ov_l h2', c.1, c.2, k1, List.getElem?_eq_getElem k2, ?_⟩
    obtain ⟨N2, x1, x2, x3⟩ := own_upd (P' := ol K (xs.eraseIdx k)) (us := us.eraseIdx k) (vs := us) (I' := I1) (N' := N1) e1 d1 (hj s1) h1 ol_sing ⟨_, rfl, All2.eraseIdx k h3'⟩
    rw [x1]
    exact q I1 N2 σ a1 x2 (by rw [← hΓ]; exact x3)
  · rw [if_neg c] at hy
    cases hy
end

/-! ### built-ins -/
section
variable {S α ζ : Type} [SH S] [Rp α] {Γ1 : List Sl} {Γ : S → List Sl} {te ta tb : TE} {tl : TA} {ps : List PV} {w : PV} {I : Hp}
def Cb (r : List V → Hp → VK → Prop) (ps : List PV) (w : PV) : Prop := ∀ (I N : Hp) (vs : List V) (Q : VK), Dis N I → All2 (fun (p : PV) v => p.r I v) ps vs → (∀ v I', Ex I I' → Dis N I' → w.r I' v → Q v (ov N I')) → r vs (ov N I) Q
theorem ep_cb {r : List V → Hp → VK → Prop} (h : AP tl Γ1 ps) (c : Cb r ps w) : EP (tCB r tl) Γ1 w := fun I F N σ e d Q q => h I F N σ e d _ fun vs I1 a1 d1 r1 => c I1 N vs Q d1 r1 fun v I2 a2 d2 r2 => q v I2 (a1.trans a2) d2 r2
theorem em_cb {r : List V → Hp → VK → Prop} {m : Mn S ζ} {psf : ζ → List PV} {f : ζ → α} (h : AM tl Γ m psf) (c : ∀ z, Cb r (psf z) (pv K (f z))) : EM K (tCB r tl) Γ (mb m fun z => mp (f z)) := fun s I F N σ e d Q q =>
  h s I F N σ e d _ (R.sat_imp (sat_mb.mp q) fun z s1 q vs I1 N1 a1 d1 e1 r1 => c z I1 N1 vs Q d1 r1 fun v I2 a2 d2 r2 => q v I2 N1 (a1.trans a2) d2 (e1.up a2) r2)
theorem em_cbC {r : List V → Hp → VK → Prop} {m : Mn S ζ} {psf : ζ → List PV} {f : ζ → α} {g : ζ → Bool} (h : AM tl Γ m psf) (c : ∀ z, g z = true → Cb r (psf z) (pv K (f z))) : EM K (tCB r tl) Γ (mb m fun z => mc (g z) (f z)) := fun s I F N σ e d Q q =>
  h s I F N σ e d _ (R.sat_imp (sat_mb.mp q) fun z s1 q vs I1 N1 a1 d1 e1 r1 => c z (sat_mc.mp q).1 I1 N1 vs Q d1 r1 fun v I2 a2 d2 r2 => (sat_mc.mp q).2 v I2 N1 (a1.trans a2) d2 (e1.up a2) r2)
/-- one argument -/
theorem cb1 {r : List V → Hp → VK → Prop} {p : PV} (h : ∀ (I N : Hp) (v : V) (Q : VK), Dis N I → p.r I v → (∀ v I', Ex I I' → Dis N I' → w.r I' v → Q v (ov N I')) → r [v] (ov N I) Q) : Cb r [p] w := fun I N vs Q d a q => by
  obtain ⟨v, _, rfl, r1, a⟩ := all2_c a
  cases all2_n a
  exact h I N v Q d r1 q
theorem cb2 {r : List V → Hp → VK → Prop} {p p2 : PV} (h : ∀ (I N : Hp) (v u : V) (Q : VK), Dis N I → p.r I v → p2.r I u → (∀ v I', Ex I I' → Dis N I' → w.r I' v → Q v (ov N I')) → r [v, u] (ov N I) Q) : Cb r [p, p2] w := fun I N vs Q d a q => by
  obtain ⟨v, _, rfl, r1, a⟩ := all2_c a
  obtain ⟨u, _, rfl, r2, a⟩ := all2_c a
  cases all2_n a
  exact h I N v u Q d r1 r2 q
theorem c_abs {i : Int} : Cb (fun xs H Q => ∃ i, xs = [.int i] ∧ Q (.int (if i < 0 then -i else i)) H) [pv K i] (pv K (if i < 0 then -i else i)) := cb1 fun I N v Q d h q => ⟨i, by rw [show v = V.int i from h], q _ I (Ex.refl I) d rfl⟩
theorem c_max2 {i j : Int} : Cb (fun xs H Q => ∃ i j, xs = [.int i, .int j] ∧ Q (.int (if j > i then j else i)) H) [pv K i, pv K j] (pv K (if j > i then j else i)) := cb2 fun I N v u Q d h h2 q => ⟨i, j, by rw [show v = V.int i from h, show u = V.int j from h2], q _ I (Ex.refl I) d rfl⟩
theorem c_min2 {i j : Int} : Cb (fun xs H Q => ∃ i j, xs = [.int i, .int j] ∧ Q (.int (if j < i then j else i)) H) [pv K i, pv K j] (pv K (if j < i then j else i)) := cb2 fun I N v u Q d h h2 q => ⟨i, j, by rw [show v = V.int i from h, show u = V.int j from h2], q _ I (Ex.refl I) d rfl⟩
theorem c_int {i : Int} : Cb (fun xs H Q => (∃ i, xs = [.int i] ∧ Q (.int i) H) ∨ ∃ k, xs = [.bl k] ∧ Q (.int (if k then 1 else 0)) H) [pv K i] (pv K i) := cb1 fun I N v Q d h q => .inl ⟨i, by rw [show v = V.int i from h], q _ I (Ex.refl I) d rfl⟩
theorem c_lenL {xs : List α} : Cb (fun xs H Q => ∃ p ys, xs = [.ref p] ∧ (SqL K H p ys ∨ SqT K H p ys) ∧ Q (.int ys.length) H) [pv K xs] (pv K (xs.length : Int)) := cb1 fun I N v Q d ⟨a, vs, h1, h2, h3⟩ q => ⟨a, vs, by rw [h1], .inl (SqL.of (ex_ov d _ _ h2)), q _ I (Ex.refl I) d (by rw [h3.length]; rfl)⟩
theorem c_lenT {xs : Tu α} : Cb (fun xs H Q => ∃ p ys, xs = [.ref p] ∧ (SqL K H p ys ∨ SqT K H p ys) ∧ Q (.int ys.length) H) [pv K xs] (pv K (xs.l.length : Int)) := cb1 fun I N v Q d ⟨a, vs, h1, h2, h3⟩ q => ⟨a, vs, by rw [h1], .inr (sqt_ov d h2), q _ I (Ex.refl I) d (by rw [h3.length]; rfl)⟩
theorem c_lenS {xs : Scr} : Cb (fun xs H Q => ∃ p ys, xs = [.ref p] ∧ (SqL K H p ys ∨ SqT K H p ys) ∧ Q (.int ys.length) H) [pv K xs] (pv K (xs.l.length : Int)) := cb1 fun I N v Q d ⟨a, h1, h2⟩ q => ⟨a, _, by rw [h1], .inl (sql_ov d h2), q _ I (Ex.refl I) d (by rw [List.length_map]; rfl)⟩
theorem c_sum {xs : List Int} : Cb (rSum K) [pv K xs] (pv K xs.sum) := cb1 fun I N v Q d ⟨a, vs, h1, h2, h3⟩ q => ⟨a, xs, by rw [h1], SqL.of (by rw [← rs_int h3]; exact ex_ov d _ _ h2), q _ I (Ex.refl I) d rfl⟩
theorem c_all {xs : List Bool} : Cb (rAll K) [pv K xs] (pv K (xs.all id)) := cb1 fun I N v Q d ⟨a, vs, h1, h2, h3⟩ q => ⟨a, xs, by rw [h1], SqL.of (by rw [show xs.map V.bl = vs from (rs_sc h3).symm]; exact ex_ov d _ _ h2), q _ I (Ex.refl I) d rfl⟩
theorem c_any {xs : List Bool} : Cb (rAny K) [pv K xs] (pv K (xs.any id)) := cb1 fun I N v Q d ⟨a, vs, h1, h2, h3⟩ q => ⟨a, xs, by rw [h1], SqL.of (by rw [show xs.map V.bl = vs from (rs_sc h3).symm]; exact ex_ov d _ _ h2), q _ I (Ex.refl I) d rfl⟩
/-- ascending -/
def srt (xs : List Int) : List Int := xs.mergeSort fun a b => decide (a ≤ b)
theorem srt_perm (xs : List Int) : (srt xs).Perm xs := List.mergeSort_perm _ _
theorem srt_pw (xs : List Int) : (srt xs).Pairwise (· ≤ ·) := by
  have h := List.pairwise_mergeSort (le := fun a b : Int => decide (a ≤ b)) (fun a b c h1 h2 => by simp at *; omega) (fun a b => by simp; omega) xs
  exact h.imp fun h => by simpa using h
theorem srt_eq {xs ys : List Int} (p : ys.Perm xs) (h : ys.Pairwise (· ≤ ·)) : ys = srt xs :=
  List.Perm.eq_of_pairwise (fun a b _ _ h1 h2 => Int.le_antisymm h1 h2) h (srt_pw xs) (p.trans (srt_perm xs).symm)
theorem c_sorted {xs : List Int} : Cb (rSortedI K) [pv K xs] (pv K (srt xs)) := cb1 fun I N v Q d ⟨a, vs, h1, h2, h3⟩ q => ⟨a, xs, by rw [h1], SqL.of (by rw [← rs_int h3]; exact ex_ov d _ _ h2), fun ns' p hp hs hn => by
  have e := srt_eq hp hs
  subst e
  obtain ⟨x1, x2, x3, x4⟩ := mk_list (K := K) (xs := srt xs) (vs := (srt xs).map V.int) d hn rs_of_int
  rw [x4]
  exact q _ _ x1 x2 x3⟩
/-- a type, as a value -/
def tyPV (n : String) : PV := ⟨fun _ v => v = V.ty n, fun _ h => h⟩
theorem ep_ty {n : String} : EP (tC (.ty n)) Γ1 (tyPV n) := fun I F N σ e d Q q => q _ I (Ex.refl I) d rfl
theorem c_isi {p : PV} {n t : String} {b : Bool} (h : ∀ H v, p.r H v → TyX K H v (.type t)) (e : kitB t n = some b) : Cb (rIsi K) [p, tyPV n] (pv K b) := cb2 fun I N v u Q d h1 h2 q => ⟨v, .ty n, .type t, .type n, b, by rw [show u = V.ty n from h2], .ty n, h _ v (p.up (ex_ov d) h1), kit_ty e, q _ I (Ex.refl I) d rfl⟩
theorem ty_int {i : Int} : ∀ H v, (pv K i).r H v → TyX K H v (.type "int") := fun H v h => by rw [show v = V.int i from h]; exact .base (.int i)
theorem ty_bool {i : Bool} : ∀ H v, (pv K i).r H v → TyX K H v (.type "bool") := fun H v h => by rw [show v = V.bl i from h]; exact .base (.bl i)
theorem ty_list {xs : List α} : ∀ H v, (pv K xs).r H v → TyX K H v (.type "list") := fun H v ⟨a, vs, h1, h2, h3⟩ => by rw [h1]; exact .base (.lst h2)
/-! parts of lists -/
def cutL {α : Type} (xs : List α) (lo hi : Option Int) : List α := (xs.drop (HT.sIx xs.length 0 lo)).take (HT.sIx xs.length xs.length hi - HT.sIx xs.length 0 lo)
theorem rs_cut {xs : List α} {vs : List V} {lo hi : Option Int} (h : Rs K xs I vs) : Rs K (cutL xs lo hi) I (cutV vs lo hi) := by
  unfold cutL cutV
  rw [← h.length]
  exact (h.drop _).take _
def OPa (t : TO) (Γ : List Sl) (o : Option Int) : Prop := ∀ (I F N : Hp) (σ : L2.St), EnvX I N σ Γ → Dis N I → ∀ Q : Option Int → Hp → Prop, (∀ I', Ex I I' → Dis N I' → Q o (ov N I')) → t σ (ov N I) Q
theorem po_no : OPa tNoPart Γ1 none := fun I F N σ e d Q q => q I (Ex.refl I) d
theorem po_i {i : Int} (h : EP te Γ1 (pv K i)) : OPa (tPart te) Γ1 (some i) := fun I F N σ e d Q q => h I F N σ e d _ fun v I1 a1 d1 r1 => ⟨i, r1, q I1 a1 d1⟩
theorem ep_sl {xs : List α} {lo hi : Option Int} {t1 t2 : TO} (h : EP te Γ1 (pv K xs)) (h1 : OPa t1 Γ1 lo) (h2 : OPa t2 Γ1 hi) : EP (tSl (rSlL K) te t1 t2) Γ1 (pv K (cutL xs lo hi)) := fun I F N σ e d Q q =>
  h I F N σ e d _ fun v I1 a1 d1 r1 => h1 I1 F N σ (e.up a1) d1 _ fun I2 a2 d2 => h2 I2 F N σ (e.up (a1.trans a2)) d2 _ fun I3 a3 d3 => by
    obtain ⟨a, vs, g1, g2, g3⟩ := Rp.up (a2.trans a3) r1
    refine ⟨a, vs, g1, SqL.of (ex_ov d3 _ _ g2), fun p hp => ?_⟩
    obtain ⟨x1, x2, x3, x4⟩ := mk_list d3 hp (rs_cut g3)
    rw [x4]
    exact q _ _ (((a1.trans a2).trans a3).trans x1) x2 x3
theorem ep_slS {xs : Scr} {lo hi : Option Int} {t1 t2 : TO} (h : EP te Γ1 (pv K xs)) (h1 : OPa t1 Γ1 lo) (h2 : OPa t2 Γ1 hi) : EP (tSl (rSlL K) te t1 t2) Γ1 (pv K (cutL xs.l lo hi)) := fun I F N σ e d Q q =>
  h I F N σ e d _ fun v I1 a1 d1 r1 => h1 I1 F N σ (e.up a1) d1 _ fun I2 a2 d2 => h2 I2 F N σ (e.up (a1.trans a2)) d2 _ fun I3 a3 d3 => by
    obtain ⟨a, g1, g2⟩ := Rp.up (a2.trans a3) r1
    refine ⟨a, _, g1, sql_ov d3 g2, fun p hp => ?_⟩
    obtain ⟨x1, x2, x3, x4⟩ := mk_list d3 hp (rs_cut (lo := lo) (hi := hi) (rs_of_int (K := K) (H := I3)))
    rw [x4]
    exact q _ _ (((a1.trans a2).trans a3).trans x1) x2 x3
/-- an item of the script -/
theorem o_ixS {xs : Scr} {i x : Int} (e : atI xs.l i = some x) : Op2 (rIxL K) (pv K xs) (pv K i) (pv K x) := fun I N u v Q d ⟨a, h1, h2⟩ hy k => by
  obtain ⟨w, q1, q2⟩ := rs_at (rs_of_int (K := K) (H := I)) e
  exact ⟨a, _, i, w, h1, hy, sql_ov d h2, q1, k w I (Ex.refl I) d q2⟩
theorem em_ixSp {xs : Scr} {i : Int} (ha : ∀ s, EP ta (Γ s) (pv K xs)) (hb : ∀ s, EP tb (Γ s) (pv K i)) : EM K (tOp (rIxL K) ta tb) Γ (mo (atI xs.l i)) := fun s I F N σ e d Q q => by
  obtain ⟨z, hz, q⟩ := sat_mo.mp q
  exact ep_op (ha s) (hb s) (o_ixS hz) I F N σ e d Q fun v I3 a3 d3 r3 => q v I3 N a3 d3 (e.up a3) r3
/-- x in xs, of written values -/
class Fl (α : Type) [Rp α] [Sc α] where
  fl : ∀ x : α, flatV (Sc.s x) = true
  eq : ∀ x y : α, eqV (Sc.s x) (Sc.s y) = true ↔ x = y
instance flInt : Fl Int := ⟨fun _ => rfl, fun x y => by simp [Sc.s, eqV]⟩
instance flStr : Fl Str := ⟨fun _ => rfl, fun x y => by simp [Sc.s, eqV]⟩
instance flBool : Fl Bool := ⟨fun _ => rfl, fun x y => by simp [Sc.s, eqV]⟩
theorem in_fl {β : Type} [Rp β] [Sc β] [Fl β] [DecidableEq β] (x : β) : ∀ xs : List β, inV (Sc.s x) (xs.map Sc.s) = decide (x ∈ xs)
  | [] => by simp [inV]
  | y :: ys => by
    have ih := in_fl x ys
    unfold inV at ih ⊢
    rw [List.map_cons, List.any_cons, ih]
    by_cases h : y = x
    · rw [(Fl.eq y x).mpr h]; simp [h]
    · have h1 : eqV (Sc.s y) (Sc.s x) = false := by
        cases q : eqV (Sc.s y) (Sc.s x) with
        | false => rfl
        | true => exact absurd ((Fl.eq y x).mp q) h
      rw [h1]
      have h2 : ¬ x = y := fun q => h q.symm
      simp [h2]
theorem all_fl {β : Type} [Rp β] [Sc β] [Fl β] : ∀ xs : List β, (xs.map (Sc.s (α := β))).all flatV = true
  | [] => rfl
  | y :: ys => by rw [List.map_cons, List.all_cons, Fl.fl, all_fl ys]; rfl
theorem o_in {β : Type} [Rp β] [Sc β] [Fl β] [DecidableEq β] {x : β} {xs : List β} : Op2 (rIn K false) (pv K x) (pv K xs) (pv K (decide (x ∈ xs))) := fun I N u v Q d hx ⟨a, vs, h1, h2, h3⟩ q => by
  cases Sc.eq.mp hx
  have e := rs_sc h3
  subst e
  refine ⟨a, _, h1, .inl (SqL.of (ex_ov d _ _ h2)), Fl.fl x, all_fl xs, ?_⟩
  rw [if_neg Bool.false_ne_true, in_fl]
  exact q _ I (Ex.refl I) d rfl
theorem o_notIn {β : Type} [Rp β] [Sc β] [Fl β] [DecidableEq β] {x : β} {xs : List β} : Op2 (rIn K true) (pv K x) (pv K xs) (pv K (!decide (x ∈ xs))) := fun I N u v Q d hx ⟨a, vs, h1, h2, h3⟩ q => by
  cases Sc.eq.mp hx
  have e := rs_sc h3
  subst e
  refine ⟨a, _, h1, .inl (SqL.of (ex_ov d _ _ h2)), Fl.fl x, all_fl xs, ?_⟩
  rw [if_pos rfl, in_fl]
  exact q _ I (Ex.refl I) d rfl
theorem o_inT {β : Type} [Rp β] [Sc β] [Fl β] [DecidableEq β] {x : β} {xs : Tu β} : Op2 (rIn K false) (pv K x) (pv K xs) (pv K (decide (x ∈ xs.l))) := fun I N u v Q d hx ⟨a, vs, h1, h2, h3⟩ q => by
  cases Sc.eq.mp hx
  have e := rs_sc h3
  subst e
  refine ⟨a, _, h1, .inr (sqt_ov d h2), Fl.fl x, all_fl xs.l, ?_⟩
  rw [if_neg Bool.false_ne_true, in_fl]
  exact q _ I (Ex.refl I) d rfl
theorem o_notInT {β : Type} [Rp β] [Sc β] [Fl β] [DecidableEq β] {x : β} {xs : Tu β} : Op2 (rIn K true) (pv K x) (pv K xs) (pv K (!decide (x ∈ xs.l))) := fun I N u v Q d hx ⟨a, vs, h1, h2, h3⟩ q => by
  cases Sc.eq.mp hx
  have e := rs_sc h3
  subst e
  refine ⟨a, _, h1, .inr (sqt_ov d h2), Fl.fl x, all_fl xs.l, ?_⟩
  rw [if_pos rfl, in_fl]
  exact q _ I (Ex.refl I) d rfl
/-! lists from lists -/
def repOk (n : Nat) (k : Int) : Bool := decide (-(2 ^ 63) ≤ k ∧ k < 2 ^ 63 ∧ n * k.toNat ≤ 16000000)
def repL {α : Type} (xs : List α) (k : Int) : List α := (List.replicate k.toNat xs).flatten
theorem rs_flat {xs : List α} {vs : List V} (h : Rs K xs I vs) : ∀ n : Nat, Rs K (List.replicate n xs).flatten I (List.replicate n vs).flatten
  | 0 => .nil
  | n + 1 => by
    rw [List.replicate_succ, List.replicate_succ, List.flatten_cons, List.flatten_cons]
    exact h.append (rs_flat h n)
theorem eo_rep {xs : List α} {k : Int} (ha : ∀ s, EP ta (Γ s) (pv K xs)) (hb : ∀ s, EP tb (Γ s) (pv K k)) : EO (tOp rRep ta tb) Γ (mc (repOk xs.length k) (repL xs k)) (rOw (ol K)) := fun s I F N σ e d Q q => by
  obtain ⟨c, q⟩ := sat_mc.mp q
  have c := of_decide_eq_true c
  refine ha s I F N σ e d _ fun v I1 a1 d1 r1 => hb s I1 F N σ (e.up a1) d1 _ fun w I2 a2 d2 r2 => ?_
  obtain ⟨a, vs, g1, g2, g3⟩ := Rp.up a2 r1
  exact ⟨a, k, vs, g1, r2, ex_ov d2 _ _ g2, c.1, c.2.1, by rw [← g3.length]; exact sz16' c.2.2, fun p hp => q _ _ I2 N (a1.trans a2) (e.up (a1.trans a2)) (new_list d2 hp (rs_flat g3 _))⟩
theorem o_cat {xs ys : List α} (c : lenOk (xs.length + ys.length) = true) : Op2 rCat (pv K xs) (pv K ys) (pv K (xs ++ ys)) := fun I N u v Q d ⟨a, vs, h1, h2, h3⟩ ⟨b, us, g1, g2, g3⟩ q => ⟨a, b, vs, us, h1, g1, ex_ov d _ _ h2, ex_ov d _ _ g2, by rw [← h3.length, ← g3.length]; exact sz16' (of_decide_eq_true c), fun p hp => by
  obtain ⟨x1, x2, x3, x4⟩ := mk_list d hp (h3.append g3)
  rw [x4]
  exact q _ _ x1 x2 x3⟩
/-- list(xs) -/
def rListOf (K : PySem.W.Frag) : List V → Hp → VK → Prop := fun xs H Q => ∃ p ys, xs = [.ref p] ∧ (SqL K H p ys ∨ SqT K H p ys) ∧ ∀ l, H l = none → Q (.ref l) (upd H l (.lst ys))
theorem eo_listL {xs : List α} (h : ∀ s, AP tl (Γ s) [pv K xs]) : EO (tCB (rListOf K) tl) Γ (mp xs) (rOw (ol K)) := fun s I F N σ e d Q q => h s I F N σ e d _ fun vs I1 a1 d1 r1 => by
  obtain ⟨v, _, rfl, r, r1⟩ := all2_c r1
  cases all2_n r1
  obtain ⟨a, us, g1, g2, g3⟩ := r
  exact ⟨a, us, by rw [g1], .inl (SqL.of (ex_ov d1 _ _ g2)), fun p hp => q _ _ I1 N a1 (e.up a1) (new_list d1 hp g3)⟩
theorem eo_listT {xs : Tu α} (h : ∀ s, AP tl (Γ s) [pv K xs]) : EO (tCB (rListOf K) tl) Γ (mp xs.l) (rOw (ol K)) := fun s I F N σ e d Q q => h s I F N σ e d _ fun vs I1 a1 d1 r1 => by
  obtain ⟨v, _, rfl, r, r1⟩ := all2_c r1
  cases all2_n r1
  obtain ⟨a, us, g1, g2, g3⟩ := r
  exact ⟨a, us, by rw [g1], .inr (sqt_ov d1 g2), fun p hp => q _ _ I1 N a1 (e.up a1) (new_list d1 hp g3)⟩
/-- list(range(n)), list(range(a, b)) -/
def rgOk (a b : Int) : Bool := decide (-(2 ^ 62) ≤ a ∧ a < 2 ^ 62 ∧ -(2 ^ 62) ≤ b ∧ b < 2 ^ 62 ∧ (b - a).toNat ≤ 2 ^ 24)
theorem rgV_eq {a b : Int} : rgV a b = (rng a (b - a).toNat).map V.int := by
  unfold rgV rng
  rw [List.map_map]
  rfl
theorem eo_listRg1 {n : Int} (h : ∀ s, EP te (Γ s) (pv K n)) : EO (tLstRg (tRg1 te)) Γ (mc (rgOk 0 n) (rng 0 n.toNat)) (rOw (ol K)) := fun s I F N σ e d Q q => by
  obtain ⟨c, q⟩ := sat_mc.mp q
  have c := of_decide_eq_true c
  refine h s I F N σ e d _ fun v I1 a1 d1 r1 => ⟨n, r1, c, fun p hp => q _ _ I1 N a1 (e.up a1) (new_list d1 hp ?_)⟩
  rw [rgV_eq, Int.sub_zero]
  exact rs_of_int
end
/-! ### calls by names alone -/
section
variable {X : Cx} {CX : CXT} {k : Nat} {f : Addr} {fd : FuncData} {ps ks : List Str} {sp : Sp} {E : XK} {x : Str} {p pos : Pos} {kws : List Keyword} {tk : TA} {g : List Value → List Value → List Value} {gV : List V → List V → List V}
theorem pe_callK0 (F : FnOk X.prog X.w X.K X.mg X.base CX k f fd ps sp) (hr : Room k X.A) (hg : Gl X x) (hm : X.mg x = some (.ref f)) (hk : PySem.W.keepIn X.K (.ref f) = true) (hb : KBinds X.K fd ps ks g gV) (hx : Passes CX X E)
    (hkw : PK X kws tk) (hall : (backToKw pos (keywordEach kws X.env)).all (·.1.isSome) = true := by rfl) (hks : (backToKw pos (keywordEach kws X.env)).filterMap (·.1) = ks := by rfl)
    (hdb : (x == ("__debug__" : Str)) = false := by decide) (hpl : ((backTo pos (starEach [] X.env)).any (·.1) || (backToKw pos (keywordEach kws X.env)).any (·.1.isNone)) = false := by rfl) :
    PE X (.Call (.Name x p) [] kws pos) (tCallK sp gV E tNil tk) := by
  refine ⟨fun pins s σ H Q I h => ?_⟩
  refine wpAny_Call_Name_kw (ld_glob I hg hm ?_ hdb)
  refine PySem.W.callWith_KW0 (h₀ := X.base) I.ok.mod.kin hk hall ?_ hpl
  refine thn (hkw.run pos pins s σ H _ I h) fun ws s2 ⟨zs, H2, I2, rz, q2⟩ => ⟨I2.kIn, ?_⟩
  rw [hks]
  exact run_fnk (us := []) (vs := []) F hr hb hx I2 .nil rz q2
end
end
end Mir

/-! Mir7: several targets; the law's box; calls in the same state; promises packed -/
namespace Mir
open PySem L2
section
variable {K : PySem.W.Frag}
theorem EnvG.subF {S : Type} [SH S] {s : S} {I F N : Hp} {σ : L2.St} {Γ : List Sl} (h : EnvG s I F N σ Γ) {a : Addr} {o : HO} (q : F a = some o) : N a = some o := let ⟨_, _, h2, e⟩ := h; e.subF (by rw [ov_r (h2.some_r q)]; exact q)
/-! ### several targets -/
def AO {S ζ : Type} [SH S] (ta : TA) (Γ : S → List Sl) (m : Mn S ζ) (cs : ζ → List Sl) : Prop := ∀ (s : S) (I F N : Hp) (σ : L2.St), EnvG s I F N σ (Γ s) → Dis N I → ∀ Q : List V → Hp → Prop,
  (m s).sat (fun z s' => ∀ vs I' N' M', Ex I I' → EnvG s' I' F N' σ (Γ s') → Dis M' I' → EnvOk I' N' M' (vs.map some) (cs z) → Q vs (ov M' I')) → ta σ (ov N I) Q
section
variable {S ζ ρ α : Type} [SH S] [Rp α] {Γ : S → List Sl} {te : TE} {ta : TA}
theorem ao_nil : AO tNil Γ (mp ()) fun _ => [] := fun s I F N σ e d Q q => q [] I N N (Ex.refl I) e d .nil
theorem ao_p {p : PV} {m : Mn S ζ} {cs : ζ → List Sl} (h : ∀ s, EP te (Γ s) p) (t : AO ta Γ m cs) : AO (tCons te ta) Γ m fun z => .im p :: cs z := fun s I F N σ e d Q q =>
  h s I F N σ e d _ fun v I1 a1 d1 r1 => t s I1 F N σ (e.up a1) d1 _ (R.sat_imp q fun z s2 q vs I2 N2 M2 a2 e2 d2 e3 => q _ I2 N2 M2 (a1.trans a2) e2 d2 (.im (p.up a2 r1) e3))
theorem ao_m {m1 : Mn S α} {m : Mn S ζ} {cs : ζ → List Sl} (h : EM K te Γ m1) (t : AO ta Γ m cs) : AO (tCons te ta) Γ (mb m1 fun x => mb m fun z => mp (x, z)) fun y => .im (pv K y.1) :: cs y.2 := fun s I F N σ e d Q q =>
  h s I F N σ e d _ (R.sat_imp (sat_mb.mp q) fun x s1 q v I1 N1 a1 d1 e1 r1 => t s1 I1 F N1 σ e1 d1 _ (R.sat_imp (sat_mb.mp q) fun z s2 q vs I2 N2 M2 a2 e2 d2 e3 => q _ I2 N2 M2 (a1.trans a2) e2 d2 (.im (p := pv K x) (Rp.up a2 r1) e3)))
theorem ao_o {m1 : Mn S ρ} {m : Mn S ζ} {P : ρ → OP} {cs : ζ → List Sl} (h : EO te Γ m1 (rOw P)) (t : AO ta Γ m cs) : AO (tCons te ta) Γ (mb m1 fun x => mb m fun z => mp (x, z)) fun y => .ow (P y.1) :: cs y.2 := fun s I F N σ e d Q q =>
  h s I F N σ e d _ (R.sat_imp (sat_mb.mp q) fun x s1 q v H1 I1 N1 a1 e1 ⟨a, Ma, h1, h2, h3, h4, h5⟩ => by
    subst h1 h4
    have hF : Dis Ma F := fun b => by
      cases q : F b with
      | none => exact .inr rfl
      | some o => exact .inl (h2.some_r (e1.subF q))
    refine t s1 I1 (ov Ma F) (ov Ma N1) σ (e1.frame h2) h3 _ (R.sat_imp (sat_mb.mp q) fun z s2 q vs I2 N2 M2 a2 e2 d2 e3 => ?_)
    obtain ⟨N3, g1, g2, g3⟩ := e2.unframe hF
    subst g1
    obtain ⟨M3, g4, g5, g6⟩ := e3.unframe g2
    subst g4
    exact q _ I2 N3 _ (a1.trans a2) g3 d2 (.ow ((P x).up a2 h5) g5 g6))
end
theorem notOw_set {Γ : List Sl} {i j : Nat} {a : Sl} (h : NotOw Γ j) (n : i ≠ j) : NotOw (Γ.set i a) j := by
  unfold NotOw
  rw [List.getElem?_set_ne n]
  exact h
theorem dis_sub {I N M1 Ma : Hp} {σ : L2.St} {Γ : List Sl} (d : Dis Ma M1) (e : EnvOk I N M1 σ Γ) : Dis Ma N := fun b => by
  cases q : N b with
  | none => exact .inr rfl
  | some o => exact .inl (d.some_r (e.subF q))
/-- slots take values and owned parts, one behind another -/
def setG : List Sl → List Nat → List Sl → List Sl
  | Γ, j :: js, c :: cs => setG (Γ.set j c) js cs
  | Γ, _, _ => Γ
def setS : L2.St → List Nat → List V → L2.St
  | σ, j :: js, v :: vs => setS (σ.set j (some v)) js vs
  | σ, _, _ => σ
theorem EnvOk.takes {I F : Hp} : ∀ {js : List Nat} {vs : List V} {cs : List Sl} {N M : Hp} {σ : L2.St} {Γ : List Sl}, EnvOk I F N σ Γ → EnvOk I N M (vs.map some) cs → js.length = cs.length → js.Nodup → (∀ j ∈ js, NotOw Γ j ∧ j < Γ.length) → (∀ c ∈ cs, c ≠ .no) → EnvOk I F M (setS σ js vs) (setG Γ js cs)
  | [], vs, [], N, M, σ, Γ, e, e2, _, _, _, _ => by
    cases vs with
    | nil => cases e2; exact e
    | cons v vs => cases e2
  | [], _, _ :: _, _, _, _, _, _, _, h, _, _, _ => by simp at h
  | _ :: _, _, [], _, _, _, _, _, _, h, _, _, _ => by simp at h
  | j :: js, [], c :: cs, _, _, _, _, _, e2, _, _, _, _ => by cases e2
  | j :: js, v :: vs, c :: cs, N, M, σ, Γ, e, e2, hl, hd, hn, hc => by
    have e3 : EnvOk I N M (some v :: vs.map some) (c :: cs) := e2
    obtain ⟨n1, n2⟩ := List.nodup_cons.mp hd
    have hj := hn j (List.mem_cons_self ..)
    have rest : ∀ a : Sl, ∀ i ∈ js, NotOw (Γ.set j a) i ∧ i < (Γ.set j a).length := fun a i hi => ⟨notOw_set (hn i (List.mem_cons_of_mem _ hi)).1 (fun q => n1 (q ▸ hi)), by rw [List.length_set]; exact (hn i (List.mem_cons_of_mem _ hi)).2⟩
    show EnvOk I F M (setS (σ.set j (some v)) js vs) (setG (Γ.set j c) js cs)
    cases e3 with
    | no _ e4 => exact absurd rfl (hc .no (List.mem_cons_self ..))
    | im q e4 => exact EnvOk.takes (e.set q hj.1) e4 (by simpa using hl) n2 (rest _) fun c hc' => hc c (List.mem_cons_of_mem _ hc')
    | ow q d e4 =>
      exact EnvOk.takes (e.take q hj.1 hj.2 (dis_sub d e4)) (e4.frame d) (by simpa using hl) n2 (rest _) fun c hc' => hc c (List.mem_cons_of_mem _ hc')
theorem EnvG.takes {S : Type} [SH S] {s : S} {I F N M : Hp} {σ : L2.St} {Γ cs : List Sl} {js : List Nat} {vs : List V} (h : EnvG s I F N σ Γ) (e2 : EnvOk I N M (vs.map some) cs) (hl : js.length = cs.length) (hd : js.Nodup) (hn : ∀ j ∈ js, NotOw Γ j ∧ j < Γ.length) (hc : ∀ c ∈ cs, c ≠ .no) : EnvG s I F M (setS σ js vs) (setG Γ js cs) := let ⟨G, h1, h2, e⟩ := h; ⟨G, h1, h2, EnvOk.takes e e2 hl hd hn hc⟩
def gNames (js : List Nat) : TGs := js.foldr (fun j t => gCons (gName j) t) gNil
theorem gNames_ok : ∀ (js : List Nat) (vs : List V) (σ : L2.St) (H : Hp) (Q : L2.St → Hp → Prop), vs.length = js.length → Q (setS σ js vs) H → gNames js vs σ H Q
  | [], [], σ, H, Q, _, q => ⟨rfl, q⟩
  | [], _ :: _, _, _, _, h, _ => by simp at h
  | _ :: _, [], _, _, _, h, _ => by simp at h
  | j :: js, v :: vs, σ, H, Q, h, q => ⟨v, vs, rfl, gNames_ok js vs (σ.set j (some v)) H Q (by simpa using h) q⟩
def isNo : Sl → Bool
  | .no => true
  | _ => false
def asgOk (Γ : List Sl) (js : List Nat) (n : Nat) : Prop := js.length = n ∧ js.Nodup ∧ ∀ j ∈ js, NotOw Γ j ∧ j < Γ.length
theorem nos_of {cs : List Sl} (h : cs.all (fun c => !isNo c) = true) : ∀ c ∈ cs, c ≠ .no := fun c hc q => by
  have := List.all_eq_true.mp h c hc
  rw [q] at this
  cases this
section
variable {S ζ : Type} [SH S] {Γ : S → List Sl} {ta : TA} {m : Mn S ζ} {cs : ζ → List Sl} {Γ' : ζ → S → List Sl}
/-- a, b, .. = e1, e2, .. by a tuple -/
theorem rp_asgT {n : Nat} (js : List Nat) (h : AO ta Γ m cs) (hj : ∀ s, asgOk (Γ s) js n) (hc : ∀ z, (cs z).length = n) (hn : ∀ z, (cs z).all (fun c => !isNo c) = true) (h9 : n ≤ 1000) (hΓ : ∀ z s, setG (Γ s) js (cs z) = Γ' z s) : RP (tAsg (tTup ta) (gTup K n (gNames js))) Γ m Γ' := fun s I F N σ e d D q =>
  h s I F N σ e d _ (R.sat_imp q fun z s1 q vs I1 N1 M1 a1 e1 d1 e2 => by
    have hv : vs.length = n := by
      have l := e2.len
      rw [List.length_map, hc z] at l
      exact l
    refine ⟨by rw [hv]; exact sz2 h9, fun p hp => ?_⟩
    obtain ⟨x1, x2, x3, x4⟩ := mk_tup (K := K) (vs := vs) d1 hp
    refine ⟨p, vs, rfl, ?_, hv, gNames_ok js vs σ _ _ (hv.trans (hj s1).1.symm) ?_⟩
    · rw [x4]; exact sqt_ov x2 x3
    · rw [x4]
      refine q _ M1 _ (a1.trans x1) x2 ?_
      rw [← hΓ]
      exact EnvG.takes (e1.up x1) (e2.up x1) ((hj s1).1.trans (hc z).symm) (hj s1).2.1 (hj s1).2.2 (nos_of (hn z)))
/-- .. two local names: no tuple is made -/
theorem rp_asg2 {i j : Nat} (h : AO ta Γ m cs) (hj : ∀ s, asgOk (Γ s) [i, j] 2) (hc : ∀ z, (cs z).length = 2) (hn : ∀ z, (cs z).all (fun c => !isNo c) = true) (hΓ : ∀ z s, setG (Γ s) [i, j] (cs z) = Γ' z s) : RP (tPar i j ta) Γ m Γ' := fun s I F N σ e d D q =>
  h s I F N σ e d _ (R.sat_imp q fun z s1 q vs I1 N1 M1 a1 e1 d1 e2 => by
    have hv : vs.length = 2 := by
      have l := e2.len
      rw [List.length_map, hc z] at l
      exact l
    match vs, hv, e2 with
    | [v, w], _, e2 =>
      refine ⟨v, w, rfl, q I1 M1 _ a1 d1 ?_⟩
      rw [← hΓ]
      exact EnvG.takes (js := [i, j]) (vs := [v, w]) e1 e2 ((hj s1).1.trans (hc z).symm) (hj s1).2.1 (hj s1).2.2 (nos_of (hn z)))
theorem rp_asg3 {i j k : Nat} (h : AO ta Γ m cs) (hj : ∀ s, asgOk (Γ s) [i, j, k] 3) (hc : ∀ z, (cs z).length = 3) (hn : ∀ z, (cs z).all (fun c => !isNo c) = true) (hΓ : ∀ z s, setG (Γ s) [i, j, k] (cs z) = Γ' z s) : RP (tPar3 i j k ta) Γ m Γ' := fun s I F N σ e d D q =>
  h s I F N σ e d _ (R.sat_imp q fun z s1 q vs I1 N1 M1 a1 e1 d1 e2 => by
    have hv : vs.length = 3 := by
      have l := e2.len
      rw [List.length_map, hc z] at l
      exact l
    match vs, hv, e2 with
    | [v, w, u], _, e2 =>
      refine ⟨v, w, u, rfl, q I1 M1 _ a1 d1 ?_⟩
      rw [← hΓ]
      exact EnvG.takes (js := [i, j, k]) (vs := [v, w, u]) e1 e2 ((hj s1).1.trans (hc z).symm) (hj s1).2.1 (hj s1).2.2 (nos_of (hn z)))
end

/-! ### a def and its promise, packed -/
structure Cal (P : Program) (w : World) (K : PySem.W.Frag) (mg : Str → Option Value) (base : Heap) (k : Nat) (x : Str) (ps : List Str) (sp : Sp) : Prop where
  ex : ∃ (f : Addr) (fd : FuncData), FnOk P w K mg base CX0 k f fd ps sp ∧ mg x = some (.ref f) ∧ PySem.W.keepIn K (.ref f) = true ∧ Binds K fd ps []
/-- .. called by names alone -/
structure CalK (P : Program) (w : World) (K : PySem.W.Frag) (mg : Str → Option Value) (base : Heap) (k : Nat) (x : Str) (ps : List Str) (sp : Sp) (ks : List Str) (g : List Value → List Value → List Value) (gV : List V → List V → List V) : Prop where
  ex : ∃ (f : Addr) (fd : FuncData), FnOk P w K mg base CX0 k f fd ps sp ∧ mg x = some (.ref f) ∧ PySem.W.keepIn K (.ref f) = true ∧ KBinds K fd ps ks g gV

end
end Mir

/-! Mir8: the box's items; what the printer wants besides -/
namespace Mir
open PySem L2
section
variable {K : PySem.W.Frag}
/-! ### checked, in the state -/
def mcs {S α : Type} (c : S → Bool) (f : S → α) : Mn S α := fun s => match c s with
  | true => .ok (f s) s
  | false => .bad
theorem sat_mcs {S α : Type} {c : S → Bool} {f : S → α} {s : S} {Q : α → S → Prop} : (mcs c f s).sat Q ↔ c s = true ∧ Q (f s) s := by
  unfold mcs
  cases c s with
  | true => exact ⟨fun h => ⟨rfl, h⟩, fun h => h.2⟩
  | false => exact ⟨fun h => h.elim, fun h => nomatch h.1⟩
section
variable {S α β γ : Type} [SH S] [Rp α] [Rp β] [Rp γ] {ta tb te : TE} {Γ Γr : S → List Sl} {r : R2}
theorem em_opC2s {x : S → α} {y : S → β} {z : S → γ} {c : S → Bool} (ha : ∀ s, EP ta (Γ s) (pv K (x s))) (hb : ∀ s, EP tb (Γ s) (pv K (y s))) (h : ∀ s, c s = true → Op2 r (pv K (x s)) (pv K (y s)) (pv K (z s))) : EM K (tOp r ta tb) Γ (mcs c z) := fun s I F M σ e d Q q =>
  ep_op (ha s) (hb s) (h s (sat_mcs.mp q).1) I F M σ e d Q fun v I3 a3 d3 r3 => (sat_mcs.mp q).2 v I3 M a3 d3 (e.up a3) r3
/-- x op= e -/
theorem rp_aug {i : Nat} {f : Int → Int → Int} {x : Int} {m : Mn S Int} {Γ' : Int → S → List Sl} (hi : ∀ s, (Γ s)[i]? = some (.im (pv K x))) (h : EM K te Γ m) (hn : ∀ s, NotOw (Γ s) i) (hΓ : ∀ y s, (Γ s).set i (.im (pv K y)) = Γ' y s) : RP (tAug i te (ipI f)) Γ (mb m fun y => mp (f x y)) Γ' := fun s I F N σ e d D q => by
  obtain ⟨v, h1, h2⟩ := e.get (hi s)
  refine ⟨v, h1, h s I F N σ e d _ (R.sat_imp (sat_mb.mp q) fun y s1 q w I1 N1 a1 d1 e1 r1 => ⟨x, y, h2, r1, q I1 N1 _ a1 d1 ?_⟩)⟩
  rw [← hΓ]
  exact e1.set (p := pv K (f x y)) rfl (hn s1)
/-- an Optional value where a value is asked for -/
theorem em_unopt {o : Option α} (h : ∀ s, EP te (Γ s) (pv K o)) : EM K te Γ (mo o) := fun s I F N σ e d Q q => h s I F N σ e d Q fun v I1 a1 d1 r1 => by
  obtain ⟨a, ha, q⟩ := sat_mo.mp q
  subst ha
  exact q v I1 N a1 d1 (e.up a1) r1.1
theorem nn_int {i : Int} : ∀ H v, Rp.r K i H v → v ≠ .non := fun H v h q => by
  rw [show v = V.int i from h] at q
  cases q
theorem em_some {m : Mn S α} (hn : ∀ (x : α) H v, Rp.r K x H v → v ≠ .non) (h : EM K te Γ m) : EM K te Γ (mb m fun x => mp (some x)) := fun s I F N σ e d Q q =>
  h s I F N σ e d Q (R.sat_imp (sat_mb.mp q) fun x s1 q v I1 N1 a1 d1 e1 r1 => q v I1 N1 a1 d1 e1 ⟨r1, hn x _ _ r1⟩)
theorem o_isNopt {x : Option α} : Op2 (fun x y H Q => y = .non ∧ Q (.bl (decide (x = .non))) H) (pv K x) (pv K ()) (pv K x.isNone) := o_isN _ isN_opt
theorem o_notNopt {x : Option α} : Op2 (fun x y H Q => y = .non ∧ Q (.bl (!decide (x = .non))) H) (pv K x) (pv K ()) (pv K (!x.isNone)) := fun I M u v Q d hx hy k => by
  refine ⟨hy, ?_⟩
  rw [isN_opt (K := K) _ _ hx]
  exact k _ I (Ex.refl I) d rfl
end
def popAt {α : Type} (xs : List α) (i : Int) : Option (List α) := if decide (-(2 ^ 63) ≤ i ∧ i < 2 ^ 63) = true then (ixN xs.length i).map fun k => xs.eraseIdx k else none
def asgB (Γ : List Sl) (js : List Nat) (n : Nat) : Bool := js.length == n && decide js.Nodup && js.all fun j => !((Γ[j]?.map isOw).getD false) && Nat.blt j Γ.length
theorem asg_ok {Γ : List Sl} {js : List Nat} {n : Nat} (h : asgB Γ js n = true) : asgOk Γ js n := by
  unfold asgB at h
  rw [Bool.and_eq_true, Bool.and_eq_true] at h
  obtain ⟨⟨h1, h2⟩, h3⟩ := h
  refine ⟨by simpa using h1, of_decide_eq_true h2, fun j hj => ?_⟩
  have h4 := List.all_eq_true.mp h3 j hj
  rw [Bool.and_eq_true] at h4
  refine ⟨?_, Nat.blt_eq.mp h4.2⟩
  unfold NotOw
  simpa using h4.1
/-! ### ways out, inside a loop's body -/
section
variable {S ρ τ τ' β α : Type} [SH S] {Ret : RetT ρ} {t t1 t2 : TS} {Γ Γr Γ1 : S → List Sl} {Γ' : τ → S → List Sl} {Γt : τ' → S → List Sl} {Γb : β → S → List Sl} {Γe : Empty → S → List Sl}
theorem rc_pre {m : Mn S (Ct ρ τ β)} (w : ∀ s, Wk (Γ s) (Γ1 s)) (h : RC Ret t Γ1 m Γr Γ' Γb) : RC Ret t Γ m Γr Γ' Γb := fun s I F N σ e d D q => by
  obtain ⟨I1, N1, x1, x2, x3, x4⟩ := e.wk (w s) d
  rw [← x3]
  exact h s I1 F N1 σ x4 x2 D (R.sat_imp q fun c s' q => ctup x1 q)
def ctb {S ρ τ τ' β : Type} (k : τ' → Mn S (Ct ρ τ β)) : Ct ρ τ' Empty → Mn S (Ct ρ τ β)
  | .rt x => mp (.rt x)
  | .nx x => k x
  | .br x => nomatch x
theorem rc_seqC {m1 : Mn S (Ct ρ τ' Empty)} {m2 : τ' → Mn S (Ct ρ τ β)} (h1 : RC Ret t1 Γ m1 Γr Γt Γe) (h2 : ∀ x, RC Ret t2 (Γt x) (m2 x) Γr Γ' Γb) : RC Ret (tSeq t1 t2) Γ (mb m1 (ctb m2)) Γr Γ' Γb := fun s I F N σ e d D q =>
  h1 s I F N σ e d _ (R.sat_imp (sat_mb.mp q) fun c s1 q => by
    cases c with
    | rt x => exact q
    | nx x => exact fun I1 N1 σ1 a1 d1 e1 => h2 x s1 I1 F N1 σ1 e1 d1 D (R.sat_imp q fun c s2 q => ctup a1 q)
    | br x => exact nomatch x)
theorem rc_lastC {m1 : Mn S (Ct ρ τ' Empty)} {f : τ' → τ} (h1 : RC Ret t Γ m1 Γr Γt Γe) (w : ∀ x s, Wk (Γt x s) (Γ' (f x) s)) : RC Ret t Γ (mb m1 (ctb fun x => mp (.nx (f x)))) Γr Γ' Γb := fun s I F N σ e d D q => by
  refine h1 s I F N σ e d D (R.sat_imp (sat_mb.mp q) fun c s1 q => ?_)
  cases c with
  | rt x => exact q
  | nx x =>
    intro I1 N1 σ1 a1 d1 e1
    obtain ⟨I2, N2, x1, x2, x3, x4⟩ := e1.wk (w x s1) d1
    have q2 : ∀ I' N' σ', Ex I I' → Dis N' I' → EnvG s1 I' F N' σ' (Γ' (f x) s1) → D.nx σ' (ov N' I') := q
    rw [← x3]
    exact q2 I2 N2 σ1 (a1.trans x1) x2 x4
  | br x => exact nomatch x
end
end
/-! ### the built-ins' names -/
theorem bt_isinstance : bootBuiltins "isinstance" = some (.builtin "isinstance") := by decide +kernel
theorem bt_int : bootBuiltins "int" = some (.type "int") := by decide +kernel
theorem bt_bool : bootBuiltins "bool" = some (.type "bool") := by decide +kernel
theorem bt_list : bootBuiltins "list" = some (.type "list") := by decide +kernel
theorem bt_tuple : bootBuiltins "tuple" = some (.type "tuple") := by decide +kernel
theorem bt_str : bootBuiltins "str" = some (.type "str") := by decide +kernel
theorem bt_len : bootBuiltins "len" = some (.builtin "len") := by decide +kernel
theorem bt_sum : bootBuiltins "sum" = some (.builtin "sum") := by decide +kernel
theorem bt_sorted : bootBuiltins "sorted" = some (.builtin "sorted") := by decide +kernel
theorem bt_abs : bootBuiltins "abs" = some (.builtin "abs") := by decide +kernel
theorem bt_min : bootBuiltins "min" = some (.builtin "min") := by decide +kernel
theorem bt_max : bootBuiltins "max" = some (.builtin "max") := by decide +kernel
theorem bt_all : bootBuiltins "all" = some (.builtin "all") := by decide +kernel
theorem bt_any : bootBuiltins "any" = some (.builtin "any") := by decide +kernel
end Mir

/-! MirM: plain laws used by several claims -/
namespace Mir
open PySem L2
section
variable {S α β τ ρ : Type}
theorem rng_zero {a : Int} : rng a 0 = [] := rfl
theorem rng_succ {a : Int} {n : Nat} : rng a (n + 1) = a :: rng (a + 1) n := by
  unfold rng
  rw [List.range_succ_eq_map, List.map_cons, List.map_map]
  congr 1
  · simp
  · apply List.map_congr_left
    intro i _
    simp only [Function.comp]
    omega
theorem rng_add {a : Int} {m n : Nat} : rng a (m + n) = rng a m ++ rng (a + m) n := by
  induction m generalizing a with
  | zero => simp [rng_zero]
  | succ m ih =>
    have e : a + 1 + (m : Int) = a + ((m + 1 : Nat) : Int) := by omega
    rw [Nat.add_right_comm, rng_succ, rng_succ, ih, List.cons_append, e]
theorem mem_rng {a x : Int} {n : Nat} : x ∈ rng a n ↔ a ≤ x ∧ x < a + n := by
  induction n generalizing a with
  | zero => exact ⟨fun h => (nomatch h), fun h => by omega⟩
  | succ n ih => rw [rng_succ, List.mem_cons, ih]; omega
theorem rng_pw {a : Int} {n : Nat} : (rng a n).Pairwise (· < ·) := by
  induction n generalizing a with
  | zero => exact .nil
  | succ n ih =>
    rw [rng_succ]
    exact .cons (fun x hx => by have := mem_rng.mp hx; omega) ih
/-- a for loop by an invariant of what is left -/
theorem sat_forP {body : α → τ → Mn S τ} {Inv : List α → τ → S → Prop} {Q : τ → S → Prop} (step : ∀ x xs t s, Inv (x :: xs) t s → (body x t s).sat fun t' s' => Inv xs t' s') (fin : ∀ t s, Inv [] t s → Q t s) : ∀ {xs : List α} {t : τ} {s : S}, Inv xs t s → (forP xs t body s).sat Q
  | [], t, s, h => fin t s h
  | x :: xs, t, s, h => sat_mb.mpr (R.sat_imp (step x xs t s h) fun t' s' h' => sat_forP step fin h')
/-- .. with ways out -/
theorem sat_forC {body : α → τ → Mn S (Ct ρ τ τ)} {Inv : List α → τ → S → Prop} {Q : Ct ρ τ β → S → Prop} (step : ∀ x xs t s, Inv (x :: xs) t s → (body x t s).sat fun c s' => match c with | .rt y => Q (.rt y) s' | .nx t' => Inv xs t' s' | .br t' => Q (.nx t') s') (fin : ∀ t s, Inv [] t s → Q (.nx t) s) : ∀ {xs : List α} {t : τ} {s : S}, Inv xs t s → (forC xs t body s).sat Q
  | [], t, s, h => fin t s h
  | x :: xs, t, s, h => sat_mb.mpr (R.sat_imp (step x xs t s h) fun c s' h' => by
      cases c with
      | rt y => exact h'
      | nx t' => exact sat_forC step fin h'
      | br t' => exact h')
theorem sat_cmGo {c : α → Mn S Bool} {f : α → Mn S β} {p : α → Bool} {g : α → β} {s : S} {Q : List β → S → Prop} : ∀ {xs : List α} {acc : List β}, (∀ x ∈ xs, (c x s).sat fun b s' => b = p x ∧ s' = s) → (∀ x ∈ xs, p x = true → (f x s).sat fun y s' => y = g x ∧ s' = s) → Q (acc ++ (xs.filter p).map g) s → (cmGo xs acc c f s).sat Q
  | [], acc, _, _, q => sat_mp.mpr (by simpa using q)
  | x :: xs, acc, hc, hf, q => by
    unfold cmGo
    refine sat_mb.mpr (R.sat_imp (hc x (List.mem_cons_self ..)) fun b s' ⟨hb, hs⟩ => ?_)
    subst hs
    rw [List.filter_cons] at q
    cases hp : p x with
    | true =>
      rw [hp] at hb q
      subst hb
      refine sat_mi.mpr ⟨fun _ => sat_mb.mpr (R.sat_imp (hf x (List.mem_cons_self ..) hp) fun y s2 ⟨hy, hs2⟩ => ?_), fun h => nomatch h⟩
      subst hy hs2
      exact sat_cmGo (fun x h => hc x (List.mem_cons_of_mem _ h)) (fun x h => hf x (List.mem_cons_of_mem _ h)) (by simpa using q)
    | false =>
      rw [hp] at hb q
      subst hb
      refine sat_mi.mpr ⟨fun h => (nomatch h), fun _ => sat_cmGo (fun x h => hc x (List.mem_cons_of_mem _ h)) (fun x h => hf x (List.mem_cons_of_mem _ h)) (by simpa using q)⟩
theorem sat_cmP {c : α → Mn S Bool} {f : α → Mn S β} {p : α → Bool} {g : α → β} {s : S} {Q : List β → S → Prop} {xs : List α} (hl : xs.length ≤ 16000000) (hc : ∀ x ∈ xs, (c x s).sat fun b s' => b = p x ∧ s' = s) (hf : ∀ x ∈ xs, p x = true → (f x s).sat fun y s' => y = g x ∧ s' = s) (q : Q ((xs.filter p).map g) s) : (cmP xs c f s).sat Q :=
  sat_mb.mpr (sat_mc.mpr ⟨decide_eq_true hl, sat_cmGo hc hf q⟩)
end
theorem sum_rep {k : Nat} {x : Int} : (List.replicate k x).sum = k * x := by
  induction k with
  | zero => simp
  | succ k ih => rw [List.replicate_succ, List.sum_cons, ih]; rw [Int.natCast_succ, Int.add_mul]; omega
theorem log2_lt' {n k : Nat} (h : n < 2 ^ k) (hk : k ≠ 0) : n.log2 < k := by
  by_cases h0 : n = 0
  · subst h0; simp; omega
  · exact (Nat.log2_lt h0).mpr h
theorem modOk_of {j : Int} (h : 0 < j) : modOk j = true := decide_eq_true h
theorem divOk_of {j : Int} (h : 0 < j) (h2 : j < 2 ^ 64) : divOk j = true := decide_eq_true ⟨h, by
  have : j.natAbs < 2 ^ 64 := by omega
  have := log2_lt' this (by decide)
  omega⟩
theorem mulOk_of {i j : Int} (h : i.natAbs < 2 ^ 64) (h2 : j.natAbs < 2 ^ 64) : mulOk i j = true := decide_eq_true (by
  have := log2_lt' h (by decide)
  have := log2_lt' h2 (by decide)
  omega)
theorem powOk_of {i j : Int} (h : i.natAbs < 2 ^ 64) (h1 : 0 ≤ j) (h2 : j ≤ 1000000) : powOk i j = true := decide_eq_true ⟨h1, h2, h⟩
theorem b62_of {i : Int} (h1 : -1000000000 ≤ i) (h2 : i ≤ 1000000000) : b62 i = true := decide_eq_true (by constructor <;> omega)
theorem atI_get' {α : Type} {xs : List α} {i : Int} (h0 : 0 ≤ i) (h1 : i < xs.length) : atI xs i = xs[i.toNat]? := by
  unfold atI ixN
  rw [if_pos h0, if_pos h1]
  rfl
theorem atI_some {α : Type} {xs : List α} {i : Int} (h0 : 0 ≤ i) (h1 : i < xs.length) : ∃ x, atI xs i = some x ∧ x ∈ xs := by
  have h : i.toNat < xs.length := by omega
  exact ⟨xs[i.toNat], by rw [atI_get' h0 h1, List.getElem?_eq_getElem h], List.getElem_mem h⟩
end Mir

/-! MirN: the same laws over a shut form of sat: nothing unfolds a mirror by itself -/
namespace Mir
open PySem L2
structure R.st {S α : Type} (r : R S α) (Q : α → S → Prop) : Prop where
  to : r.sat Q
section
variable {S α β τ ρ : Type}
theorem R.st_imp {m : R S α} {Q Q' : α → S → Prop} (h : m.st Q) (f : ∀ a s, Q a s → Q' a s) : m.st Q' := ⟨R.sat_imp h.to f⟩
theorem st_iff {m : R S α} {Q : α → S → Prop} : m.st Q ↔ m.sat Q := ⟨fun h => h.to, fun h => ⟨h⟩⟩
theorem st_mb {m : Mn S α} {f : α → Mn S β} {s : S} {Q : β → S → Prop} : (mb m f s).st Q ↔ (m s).st fun a s' => (f a s').st Q := by
  rw [st_iff, st_iff, sat_mb]
  exact ⟨fun h => R.sat_imp h fun a s q => ⟨q⟩, fun h => R.sat_imp h fun a s q => q.to⟩
theorem st_mp {a : α} {s : S} {Q : α → S → Prop} : (mp a s).st Q ↔ Q a s := by rw [st_iff, sat_mp]
theorem st_mc {c : Bool} {a : α} {s : S} {Q : α → S → Prop} : (mc c a s).st Q ↔ c = true ∧ Q a s := by rw [st_iff, sat_mc]
theorem st_mo {o : Option α} {s : S} {Q : α → S → Prop} : (mo o s).st Q ↔ ∃ a, o = some a ∧ Q a s := by rw [st_iff, sat_mo]
theorem st_mg {f : S → α} {s : S} {Q : α → S → Prop} : (mg f s).st Q ↔ Q (f s) s := by rw [st_iff, sat_mg]
theorem st_ms {f : S → S} {s : S} {Q : Unit → S → Prop} : (ms f s).st Q ↔ Q () (f s) := by rw [st_iff, sat_ms]
theorem st_mbad {s : S} {Q : α → S → Prop} : ((mbad : Mn S α) s).st Q ↔ False := by rw [st_iff, sat_mbad]
theorem st_mcs {c : S → Bool} {f : S → α} {s : S} {Q : α → S → Prop} : (mcs c f s).st Q ↔ c s = true ∧ Q (f s) s := by rw [st_iff, sat_mcs]
theorem st_mi {b : Bool} {m1 m2 : Mn S α} {s : S} {Q : α → S → Prop} : (mi b m1 m2 s).st Q ↔ (b = true → (m1 s).st Q) ∧ (b = false → (m2 s).st Q) := by
  rw [st_iff, st_iff, st_iff, sat_mi]
theorem st_mu {m : Mn Unit α} {s : S} {Q : α → S → Prop} : (mu m s).st Q ↔ (m ()).st fun a _ => Q a s := by rw [st_iff, st_iff, sat_mu]
theorem st_mall {p : S → Addr → Bool} {s : S} {Q : Addr → S → Prop} : (mall p s).st Q ↔ ∀ a, p s a = true → Q a s := by rw [st_iff, sat_mall]
theorem st_forP {body : α → τ → Mn S τ} {Inv : List α → τ → S → Prop} {Q : τ → S → Prop} (step : ∀ x xs t s, Inv (x :: xs) t s → (body x t s).st fun t' s' => Inv xs t' s') (fin : ∀ t s, Inv [] t s → Q t s) {xs : List α} {t : τ} {s : S} (h : Inv xs t s) : (forP xs t body s).st Q :=
  ⟨sat_forP (fun x xs t s h => (step x xs t s h).to) fin h⟩
theorem st_forC {body : α → τ → Mn S (Ct ρ τ τ)} {Inv : List α → τ → S → Prop} {Q : Ct ρ τ β → S → Prop} (step : ∀ x xs t s, Inv (x :: xs) t s → (body x t s).st fun c s' => match c with | .rt y => Q (.rt y) s' | .nx t' => Inv xs t' s' | .br t' => Q (.nx t') s') (fin : ∀ t s, Inv [] t s → Q (.nx t) s) {xs : List α} {t : τ} {s : S} (h : Inv xs t s) : (forC xs t body s).st Q :=
  ⟨sat_forC (fun x xs t s h => (step x xs t s h).to) fin h⟩
theorem st_cmP {c : α → Mn S Bool} {f : α → Mn S β} {p : α → Bool} {g : α → β} {s : S} {Q : List β → S → Prop} {xs : List α} (hl : xs.length ≤ 16000000) (hc : ∀ x ∈ xs, (c x s).st fun b s' => b = p x ∧ s' = s) (hf : ∀ x ∈ xs, p x = true → (f x s).st fun y s' => y = g x ∧ s' = s) (q : Q ((xs.filter p).map g) s) : (cmP xs c f s).st Q :=
  ⟨sat_cmP hl (fun x h => (hc x h).to) (fun x h h2 => (hf x h h2).to) q⟩
/-- while, with a count of the turns that are left -/
theorem st_whP {c : τ → Mn S Bool} {body : τ → Mn S τ} {Inv : Nat → τ → S → Prop} {Q : τ → S → Prop} (step : ∀ n t s, Inv n t s → (c t s).st fun b s' => (b = true → ∃ n', n = n' + 1 ∧ (body t s').st (Inv n')) ∧ (b = false → Q t s')) : ∀ {n : Nat} {t : τ} {s : S}, Inv n t s → (whP (n + 1) t c body s).st Q
  | n, t, s, h => by
    unfold whP
    refine st_mb.mpr (R.st_imp (step n t s h) fun b s' q => st_mi.mpr ⟨fun hb => ?_, fun hb => st_mp.mpr (q.2 hb)⟩)
    obtain ⟨n', rfl, q2⟩ := q.1 hb
    exact st_mb.mpr (R.st_imp q2 fun t' s2 h2 => st_whP step h2)
theorem forP_nil {t : τ} {body : α → τ → Mn S τ} : forP [] t body = mp t := rfl
theorem forP_cons {x : α} {xs : List α} {t : τ} {body : α → τ → Mn S τ} : forP (x :: xs) t body = mb (body x t) fun t' => forP xs t' body := rfl
end
end Mir

/-! Mir9: repr of numbers and None; is, of bools; lists compared; max of a list -/
namespace Mir
open PySem PySem.Spec PyProof.Rows L2
/-! ### repr -/
def rReprO : List V → Hp → VK → Prop := fun xs H Q => (∃ i : Int, xs = [.int i] ∧ i.natAbs.log2 < 1920 ∧ Q (.str (toString i)) H) ∨ (xs = [.non] ∧ Q (.str "None") H)
theorem cr_reprO {X : Cx} : CallR X (.builtin "repr") rReprO := by
  intro pins s σ H xs us Q I r h
  rcases h with ⟨i, rfl, hz, q⟩ | ⟨rfl, q⟩
  · exact SkE.call_repr_int pins s σ H _ us Q I r ⟨i, rfl, hz, q⟩
  · obtain ⟨u, rfl, ru⟩ := vals1 r
    cases ru
    exact PySem.P.repr_of_none ⟨.str _, H, I.tok _, ⟨_, rfl⟩, q⟩
def rprO : Option Int → Str
  | none => "None"
  | some i => toString i
def rprOk : Option Int → Bool
  | none => true
  | some i => decide (i.natAbs.log2 < 1920)
section
variable {K : PySem.W.Frag}
theorem c_reprO {x : Option Int} (h : rprOk x = true) : Cb rReprO [pv K x] (pv K (rprO x)) := cb1 fun I N v Q d hv q => by
  cases x with
  | none => exact .inr ⟨by rw [show v = V.non from hv], q _ I (Ex.refl I) d rfl⟩
  | some i => exact .inl ⟨i, by rw [show v = V.int i from hv.1], of_decide_eq_true h, q _ I (Ex.refl I) d rfl⟩
section
variable {S α ζ : Type} [SH S] [Rp α] {Γ1 : List Sl} {Γ : S → List Sl} {te ta tb : TE} {tl : TA} {ps : List PV} {t1 t2 : TO}
theorem em_cbC0 {r : List V → Hp → VK → Prop} {w : α} {g : Bool} (h : ∀ s, AP tl (Γ s) ps) (c : g = true → Cb r ps (pv K w)) : EM K (tCB r tl) Γ (mc g w) := fun s I F N σ e d Q q =>
  h s I F N σ e d _ fun vs I1 a1 d1 r1 => c (sat_mc.mp q).1 I1 N vs Q d1 r1 fun v I2 a2 d2 r2 => (sat_mc.mp q).2 v I2 N (a1.trans a2) d2 (e.up (a1.trans a2)) r2
/-! ### is, of bools -/
theorem o_isB {a b : Bool} : Op2 rIsB (pv K a) (pv K b) (pv K (decide (a = b))) := fun I M u v Q d hx hy k => ⟨a, b, hx, hy, k _ I (Ex.refl I) d rfl⟩
theorem o_notB {a b : Bool} : Op2 rNotB (pv K a) (pv K b) (pv K (!decide (a = b))) := fun I M u v Q d hx hy k => ⟨a, b, hx, hy, k _ I (Ex.refl I) d rfl⟩
/-! ### data -/
theorem hu64 {k : Nat} {A : Around} (hr : Room k A) : A.units + 64 < cLine := by
  have := hr.un
  omega
/-- a type as data -/
class Dt (α : Type) [Rp α] where
  dt : α → PyData
  rel : ∀ {K : PySem.W.Frag} {x : α} {H : Hp} {v : V}, Rp.r K x H v → Dp K H v (dt x)
  lay : ∀ x : α, (dt x).canLay0 = true
  dep : Nat
  dpt : ∀ x : α, (dt x).depth ≤ dep
  eqv : ∀ x y : α, PyData.eqv (dt x) (dt y) = true ↔ x = y
instance dtInt : Dt Int := ⟨.int, fun h => by rw [show _ = V.int _ from h]; exact .int _, fun _ => by simp [PyData.canLay0], 0, fun _ => by simp [PyData.depth], fun x y => by simp [PyData.eqv]⟩
theorem dpAll_of {α : Type} [Rp α] [Dt α] {K : PySem.W.Frag} {H : Hp} : ∀ {xs : List α} {vs : List V}, Rs K xs H vs → DpAll K H vs (xs.map Dt.dt)
  | _, _, .nil => .nil
  | _, _, .cons h t => .cons (Dt.rel h) (dpAll_of t)
theorem layAll_of {α : Type} [Rp α] [Dt α] : ∀ xs : List α, PyData.canLayAll0 (xs.map (Dt.dt (α := α))) = true
  | [] => by simp [PyData.canLayAll0]
  | x :: xs => by simp [PyData.canLayAll0, Dt.lay x, layAll_of xs]
theorem depAll_of {α : Type} [Rp α] [Dt α] : ∀ xs : List α, PyData.depthAll (xs.map (Dt.dt (α := α))) ≤ Dt.dep α
  | [] => by simp [PyData.depthAll]
  | x :: xs => by
    have h1 := Dt.dpt x
    have h2 := depAll_of xs
    simp [PyData.depthAll]
    omega
theorem eqvAll_of {α : Type} [Rp α] [Dt α] : ∀ xs ys : List α, PyData.eqvAll (xs.map (Dt.dt (α := α))) (ys.map Dt.dt) = true ↔ xs = ys
  | [], [] => by simp [PyData.eqvAll]
  | [], _ :: _ => by simp [PyData.eqvAll]
  | _ :: _, [] => by simp [PyData.eqvAll]
  | x :: xs, y :: ys => by
    have h1 := Dt.eqv x y
    have h2 := eqvAll_of xs ys
    simp [PyData.eqvAll, h1, h2]
instance dtList {α : Type} [Rp α] [Dt α] : Dt (List α) := ⟨fun xs => .list (xs.map Dt.dt), fun ⟨a, vs, h1, h2, h3⟩ => by rw [h1]; exact .lst (SqL.of h2) (dpAll_of h3), fun xs => by simp [PyData.canLay0, layAll_of xs], Dt.dep α + 1, fun xs => by
    have := depAll_of xs
    simp [PyData.depth]
    omega, fun xs ys => by
    have := eqvAll_of xs ys
    simp [PyData.eqv, this]⟩
theorem shaped_of {α : Type} [Rp α] [Dt α] (h : Dt.dep α ≤ 64) (x : α) : SeqAt.shaped (Dt.dt x) = true := by
  unfold SeqAt.shaped
  rw [Dt.lay, decide_eq_true (Nat.le_trans (Dt.dpt x) h)]
  rfl
theorem eqv_dec {α : Type} [Rp α] [Dt α] [DecidableEq α] (x y : α) : PyData.eqv (Dt.dt x) (Dt.dt y) = decide (x = y) := by
  by_cases h : x = y
  · rw [(Dt.eqv x y).mpr h, decide_eq_true h]
  · rw [decide_eq_false h]
    cases q : PyData.eqv (Dt.dt x) (Dt.dt y) with
    | false => rfl
    | true => exact absurd ((Dt.eqv x y).mp q) h
theorem dp_up {K : PySem.W.Frag} {α : Type} [Rp α] [Dt α] {x : α} {H H' : Hp} {v : V} (e : Ex H H') (h : Rp.r K x H v) : Dp K H' v (Dt.dt x) := Dt.rel (Rp.up e h)
theorem o_eqDt {α : Type} [Rp α] [Dt α] [DecidableEq α] {x y : α} (h : Dt.dep α ≤ 64) : Op2 (rEqD K) (pv K x) (pv K y) (pv K (decide (x = y))) := fun I M u v Q d hx hy k =>
  ⟨_, _, dp_up (ex_ov d) hx, dp_up (ex_ov d) hy, shaped_of h x, shaped_of h y, by rw [eqv_dec]; exact k _ I (Ex.refl I) d rfl⟩
theorem o_neDt {α : Type} [Rp α] [Dt α] [DecidableEq α] {x y : α} (h : Dt.dep α ≤ 64) : Op2 (rNeD K) (pv K x) (pv K y) (pv K (!decide (x = y))) := fun I M u v Q d hx hy k =>
  ⟨_, _, dp_up (ex_ov d) hx, dp_up (ex_ov d) hy, shaped_of h x, shaped_of h y, by rw [eqv_dec]; exact k _ I (Ex.refl I) d rfl⟩
/-! ### max of a list -/
def mxL : List Int → Int
  | [] => 0
  | x :: xs => xs.foldl max x
theorem foldl_max : ∀ (xs : List Int) (x : Int), (xs.foldl max x = x ∨ xs.foldl max x ∈ xs) ∧ x ≤ xs.foldl max x ∧ ∀ y ∈ xs, y ≤ xs.foldl max x
  | [], x => ⟨.inl rfl, Int.le_refl _, fun y h => nomatch h⟩
  | z :: xs, x => by
    obtain ⟨h1, h2, h3⟩ := foldl_max xs (max x z)
    rw [List.foldl_cons]
    refine ⟨?_, by omega, fun y hy => ?_⟩
    · rcases h1 with h1 | h1
      · rw [h1]
        by_cases c : x ≤ z
        · rw [Int.max_eq_right c]; exact .inr (List.mem_cons_self ..)
        · rw [Int.max_eq_left (by omega)]; exact .inl rfl
      · exact .inr (List.mem_cons_of_mem _ h1)
    · rcases List.mem_cons.mp hy with rfl | h
      · omega
      · exact h3 y h
theorem mxL_mem {xs : List Int} (h : xs ≠ []) : mxL xs ∈ xs := by
  cases xs with
  | nil => exact absurd rfl h
  | cons x xs =>
    rcases (foldl_max xs x).1 with q | q
    · show xs.foldl max x ∈ x :: xs
      rw [q]
      exact List.mem_cons_self ..
    · exact List.mem_cons_of_mem _ q
theorem mxL_le {xs : List Int} {y : Int} (h : y ∈ xs) : y ≤ mxL xs := by
  cases xs with
  | nil => cases h
  | cons x xs =>
    rcases List.mem_cons.mp h with rfl | q
    · exact (foldl_max xs y).2.1
    · exact (foldl_max xs x).2.2 y q
theorem mxL_eq {xs : List Int} {m : Int} (h : m ∈ xs) (h2 : ∀ y ∈ xs, y ≤ m) : mxL xs = m :=
  Int.le_antisymm (h2 _ (mxL_mem (List.ne_nil_of_mem h))) (mxL_le h)
theorem c_maxL {xs : List Int} (h : (!xs.isEmpty) = true) : Cb (rMax K) [pv K xs] (pv K (mxL xs)) := cb1 fun I N v Q d ⟨a, vs, h1, h2, h3⟩ q => ⟨a, xs, by rw [h1], SqL.of (by rw [← rs_int h3]; exact ex_ov d _ _ h2), by cases xs with
  | nil => cases h
  | cons x xs => exact Nat.succ_pos _, fun m hm hu => by
    rw [← mxL_eq hm hu]
    exact q _ I (Ex.refl I) d rfl⟩
/-! ### a slice of something made -/
theorem em_slM {xs : Mn S (List α)} {lo hi : Option Int} (h : EM K te Γ xs) (h1 : ∀ s, OPa t1 (Γ s) lo) (h2 : ∀ s, OPa t2 (Γ s) hi) : EM K (tSl (rSlL K) te t1 t2) Γ (mb xs fun x => mp (cutL x lo hi)) := fun s I F N σ e d Q q =>
  h s I F N σ e d _ (R.sat_imp (sat_mb.mp q) fun x s1 q v I1 N1 a1 d1 e1 r1 => h1 s1 I1 F N1 σ e1 d1 _ fun I2 a2 d2 => h2 s1 I2 F N1 σ (e1.up a2) d2 _ fun I3 a3 d3 => by
    obtain ⟨a, vs, g1, g2, g3⟩ := Rp.up (a2.trans a3) r1
    refine ⟨a, vs, g1, SqL.of (ex_ov d3 _ _ g2), fun p hp => ?_⟩
    obtain ⟨x1, x2, x3, x4⟩ := mk_list d3 hp (rs_cut g3)
    rw [x4]
    exact q _ _ _ (((a1.trans a2).trans a3).trans x1) x2 (e1.up ((a2.trans a3).trans x1)) x3)
end
end
theorem bt_repr : bootBuiltins "repr" = some (.builtin "repr") := by decide +kernel
end Mir

/-! Mir10: defs that are run where no guard stands (as a law is): so that repr of lists may be taken -/
namespace Mir
open PySem PySem.Spec PyProof.Rows L2
/-- as FnOk, of callers without guards -/
structure FnG (P : Program) (w : World) (K : PySem.W.Frag) (mg : Str → Option Value) (base : Heap) (CX : CXT) (k : Nat) (f : Addr) (fd : FuncData) (ps : List Str) (sp : Sp) : Prop where
  len : ∀ vs H Q E, sp vs H Q E → vs.length = ps.length
  run : ∀ (B : Around) (out : List Env) (s : Shared) (H : Hp) (as : Args) (us : List Value) (vs : List V) (Q : VK) (E : XK), B.guards = some [] → Room k B → Env0 P w K mg base B out s H → BindsTo s fd as (ps.zip us) → Vals vs us → sp vs H Q E → codeAny (model P w) B (.call (.ref f) as) (CR CX out P w H s Q E) s
section
variable {P : Program} {w : World} {K : PySem.W.Frag} {mg : Str → Option Value} {base : Heap} {CX : CXT} {N ps : List Str} {k : Nat} {sp : Sp}
theorem fnG_of {f : Addr} {nm ql : Str} {pa : Arguments} {bd : List Stmt} {sc : Scope} {dV kV dc pm cdv ct oc : Value} {an od : Option Addr} {sl : Array (Option Value)} (look : K.lookup f = some ⟨oc, od, .func (PySem.W.fnOf nm ql pa bd sc dV kV dc pm an cdv ct), sl⟩) (code : PySem.W.codeIn K cdv ql = true) (S : FnScope N ps sc)
    (hl : ∀ vs H Q E, sp vs H Q E → vs.length = ps.length) (hb : ∀ (B : Around) (out : List Env) (s : Shared) (H : Hp) (vs : List V) (Q : VK) (E : XK), (B.deeper (envOfC ql sc s.heap.objs.size f cdv)).guards = some [] → Room k (B.deeper (envOfC ql sc s.heap.objs.size f cdv)) → sp vs H Q E → ∃ t, PSs (cxOf CX P w K mg base N ql sc f cdv B out s H E) bd t ∧ t { nx := fun _ H' => Q .non H', rt := Q } (start N vs) H) :
    FnG P w K mg base CX (k + 1) f (PySem.W.fnOf nm ql pa bd sc dV kV dc pm an cdv ct) ps sp := ⟨hl, fun B out s H as us vs Q E gd room env bind rel prom => by
  have n := hl vs H Q E prom
  have inK : K.In s.heap := env.mod.kin.keeps fun a o q => (env.bs a o q).1
  have nolim : s.heap.NoLimit := env.mod.nolimit.keeps fun a o q => (env.bs a o q).1
  have kinds : ∀ y ∈ ps.zip us, sc.names.lookup y.1 = some .local ∨ (sc.names.lookup y.1 = some .cell ∧ ((cellsFrom (s.heap.objs.size + 1) sc.names []).lookup y.1).isSome = true) := fun ⟨x, v⟩ hy => (S.par x (List.of_mem_zip hy).1).elim .inl fun q => .inr ⟨q, PySem.W.cellsFrom_some _ _ _ (.inl q)⟩
  refine codeAny_call_function room.depth (inK _ _ look) rfl S.co S.gen rfl (PySem.W.codeRec_of inK code) (bind _ _ _ _ (wpAny_newFunctionEnv_cells S.kind kinds fun e he s2 x => ?_))
  subst he
  refine ⟨nolim.keeps x.toInCall.keep, codeAny_func ?_⟩
  obtain ⟨t, ht, hq⟩ := hb B out s H vs Q E gd (room.deeper _) prom
  have inv : Inv (cxOf CX P w K mg base N ql sc f cdv B out s H E) [] (start N vs) H s2 := inv_start S room.hd env n rel x
  refine wpAny_mono (ht.run [] s2 (start N vs) H _ inv hq) (fun fl s3 h3 => ?_) fun e s3 h3 => h3
  have done : ∀ {σ : L2.St} {H2 : Hp} {v : V} {u : Value}, Inv (cxOf CX P w K mg base N ql sc f cdv B out s H E) [] σ H2 s3 → RelV v u → Q v H2 → CE out P w H s Q u s3 := fun {σ H2 v u} j r q => ⟨v, H2, j.os, j.bare, j.base, j.hok, r, q⟩
  cases fl with
  | ret u => exact let ⟨v, σ, H2, j, r, q⟩ := h3; done j r q
  | next => exact let ⟨σ, H2, j, q⟩ := h3; done (v := V.non) (u := Value.none) j rfl q
  | brk => exact let ⟨_, _, _, q⟩ := h3; False.elim q
  | cont => exact let ⟨_, _, _, q⟩ := h3; False.elim q⟩
theorem okG {x ql : Str} {pa : Arguments} {bd : List Stmt} {sc : Scope} {dvs : List V} {kws : List (Str × V)} {f : Addr} {fd : FuncData} (F : FunD K x ql pa bd sc dvs kws f fd) (S : FnScope N ps sc) (hl : ∀ vs H Q E, sp vs H Q E → vs.length = ps.length)
    (hb : ∀ (cdv : Value) (B : Around) (out : List Env) (s : Shared) (H : Hp) (vs : List V) (Q : VK) (E : XK), (B.deeper (envOfC ql sc s.heap.objs.size f cdv)).guards = some [] → Room k (B.deeper (envOfC ql sc s.heap.objs.size f cdv)) → sp vs H Q E → ∃ t, PSs (cxOf CX P w K mg base N ql sc f cdv B out s H E) bd t ∧ t { nx := fun _ H' => Q .non H', rt := Q } (start N vs) H) : FnG P w K mg base CX (k + 1) f fd ps sp := by
  obtain ⟨oc, od, dV, kV, dc, pm, an, cdv, ct, sl, rfl, look, code, _, _⟩ := F.ex
  exact fnG_of look code S hl fun B out s H vs Q E gd room prom => hb cdv B out s H vs Q E gd room prom
/-- packed -/
structure CalG (P : Program) (w : World) (K : PySem.W.Frag) (mg : Str → Option Value) (base : Heap) (k : Nat) (x : Str) (ps : List Str) (sp : Sp) : Prop where
  ex : ∃ (f : Addr) (fd : FuncData), FnG P w K mg base CX0 k f fd ps sp ∧ mg x = some (.ref f) ∧ PySem.W.keepIn K (.ref f) = true ∧ Binds K fd ps []
structure CalKG (P : Program) (w : World) (K : PySem.W.Frag) (mg : Str → Option Value) (base : Heap) (k : Nat) (x : Str) (ps : List Str) (sp : Sp) (ks : List Str) (g : List Value → List Value → List Value) (gV : List V → List V → List V) : Prop where
  ex : ∃ (f : Addr) (fd : FuncData), FnG P w K mg base CX0 k f fd ps sp ∧ mg x = some (.ref f) ∧ PySem.W.keepIn K (.ref f) = true ∧ KBinds K fd ps ks g gV
end
section
variable {X : Cx} {CX : CXT} {k : Nat} {f : Addr} {fd : FuncData} {ps ks : List Str} {sp : Sp} {E : XK} {x : Str} {p pos : Pos} {e : Expr} {es : List Expr} {kws : List Keyword} {t tk : TA} {g : List Value → List Value → List Value} {gV : List V → List V → List V} {ds : List Value} {dvs : List V}
theorem pe_callG (F : FnG X.prog X.w X.K X.mg X.base CX k f fd ps sp) (gd : X.A.guards = some []) (hr : Room k X.A) (hg : Gl X x) (hm : X.mg x = some (.ref f)) (hk : PySem.W.keepIn X.K (.ref f) = true) (hb : Binds X.K fd ps ds) (hd : Vals dvs ds) (hx : Passes CX X E) (ha : PA X (e :: es) t)
    (hdb : (x == ("__debug__" : Str)) = false := by decide) (he : starEach (e :: es) X.env = (false, eval e X.env) :: starEach es X.env := by rfl) (hpl : (backTo pos (starEach es X.env)).any (·.1) = false := by rfl) : PE X (.Call (.Name x p) (e :: es) [] pos) (tCall sp dvs E t) :=
  ⟨fun pins s σ H Q I h => wpAny_Call_Name_kw (ld_glob I hg hm (PySem.W.callWith_K (h₀ := X.base) I.ok.mod.kin hk (thn (ha.run pos pins s σ H _ I h) fun us s1 ⟨vs, H1, I1, r, q⟩ => ⟨I1.kIn, by
    have rr : Vals (vs ++ dvs) (us ++ ds) := r.append hd
    have n : (us ++ ds).length = ps.length := by rw [← rr.length]; exact F.len _ _ _ _ q
    refine wpAny_call (codeAny_mono (F.run X.A X.stack s1 H1 ⟨us, []⟩ (us ++ ds) (vs ++ dvs) Q E gd hr I1.env0 (hb s1 us I1.kIn n) rr q) fun r s' hq => ?_)
    exact match r, hq with
      | .error z, hq => hx pins σ H1 s1 z s' I1 hq
      | .ok (.ret u), hq => I1.after hq
      | .ok .next, hq => False.elim hq
      | .ok .brk, hq => False.elim hq
      | .ok .cont, hq => False.elim hq⟩) he hpl) hdb)⟩
end
end Mir

/-! Mir11: calls by names, repr of data, the law's end, where no guard stands -/
namespace Mir
open PySem PySem.Spec PyProof.Rows L2
section
variable {X : Cx} {CX : CXT} {k : Nat} {f : Addr} {fd : FuncData} {ps ks : List Str} {sp : Sp} {E : XK} {x : Str} {p pos : Pos} {e : Expr} {es : List Expr} {kws : List Keyword} {t tk : TA} {g : List Value → List Value → List Value} {gV : List V → List V → List V} {ds : List Value} {dvs : List V}
theorem pe_callK0G (F : FnG X.prog X.w X.K X.mg X.base CX k f fd ps sp) (gd : X.A.guards = some []) (hr : Room k X.A) (hg : Gl X x) (hm : X.mg x = some (.ref f)) (hk : PySem.W.keepIn X.K (.ref f) = true) (hb : KBinds X.K fd ps ks g gV) (hx : Passes CX X E)
    (hkw : PK X kws tk) (hall : (backToKw pos (keywordEach kws X.env)).all (·.1.isSome) = true := by rfl) (hks : (backToKw pos (keywordEach kws X.env)).filterMap (·.1) = ks := by rfl)
    (hdb : (x == ("__debug__" : Str)) = false := by decide) (hpl : ((backTo pos (starEach [] X.env)).any (·.1) || (backToKw pos (keywordEach kws X.env)).any (·.1.isNone)) = false := by rfl) :
    PE X (.Call (.Name x p) [] kws pos) (tCallK sp gV E tNil tk) := by
  refine ⟨fun pins s σ H Q I h => wpAny_Call_Name_kw (ld_glob I hg hm (PySem.W.callWith_KW0 (h₀ := X.base) I.ok.mod.kin hk hall (thn (hkw.run pos pins s σ H _ I h) fun ws s2 ⟨zs, H2, I2, rz, q2⟩ => ⟨I2.kIn, ?_⟩) hpl) hdb)⟩
  rw [hks]
  have rr := hb.rel (vs := []) (us := []) .nil rz
  have n : (g [] ws).length = ps.length := by rw [← rr.length]; exact F.len _ _ _ _ q2
  refine wpAny_call (codeAny_mono (F.run X.A X.stack s2 H2 ⟨[], ks.zip ws⟩ (g [] ws) (gV [] zs) Q E gd hr I2.env0 (hb.to s2 [] ws I2.kIn n) rr q2) fun r s' hq => ?_)
  exact match r, hq with
    | .error z, hq => hx pins σ H2 s2 z s' I2 hq
    | .ok (.ret u), hq => I2.after hq
    | .ok .next, hq => False.elim hq
    | .ok .brk, hq => False.elim hq
    | .ok .cont, hq => False.elim hq
/-! ### repr of data -/
def rReprD (K : PySem.W.Frag) : List V → Hp → VK → Prop := fun xs H Q => ∃ v d, xs = [v] ∧ Dp K H v d ∧ d.showable = true ∧ SeqAt.shaped d = true ∧ d.shown.length ≤ sizeLine ∧ Q (.str d.shown) H
theorem cr_reprD {X : Cx} (gd : X.A.guards = some []) (hu : X.A.units + 66 < cLine) : CallR X (.builtin "repr") (rReprD X.K) := by
  intro pins s σ H xs us Q I r h
  obtain ⟨v, d, rfl, hd, hs, hsh, hz, q⟩ := h
  obtain ⟨u, rfl, ru⟩ := vals1 r
  have hdep := SeqAt.depth_of_shaped hsh
  have hdict : d.hasDict = false := PyData.hasDict_of_canLay d (SeqAt.canLay_of_shaped hsh)
  cases hd with
  | non => cases ru; exact PySem.P.repr_of_none ⟨.str _, H, I.tok _, ⟨_, rfl⟩, by simpa only [PyData.shown] using q⟩
  | bl b => cases ru; exact PySem.P.repr_of_bool ⟨.str _, H, I.tok _, ⟨_, rfl⟩, by simpa only [PyData.shown] using q⟩
  | int i =>
    obtain ⟨t, rfl⟩ := ru
    exact PySem.P.repr_of_int (by simpa [PyData.showable] using hs) ⟨.str _, H, I.tok _, ⟨_, rfl⟩, by simpa only [PyData.shown] using q⟩
  | str z =>
    obtain ⟨t, rfl⟩ := ru
    exact PySem.P.repr_of_str ⟨.str _, H, I.tok _, ⟨_, rfl⟩, by simpa only [PyData.shown] using q⟩ (by simpa only [PyData.shown] using hz)
  | lst h1 h2 =>
    obtain ⟨as, rd⟩ := Dp.reads I _ _ u (.lst h1 h2) ru
    cases ru
    exact repr_of_reads' rd hs (PyData.noDict_hsm hdict) gd (by omega) (fun b o e => e) (fun h' u tk kk => ⟨.str _, H, I.kept kk, ⟨_, rfl⟩, q⟩) hz
  | tup h1 h2 =>
    obtain ⟨as, rd⟩ := Dp.reads I _ _ u (.tup h1 h2) ru
    cases ru
    exact repr_of_reads' rd hs (PyData.noDict_hsm hdict) gd (by omega) (fun b o e => e) (fun h' u tk kk => ⟨.str _, H, I.kept kk, ⟨_, rfl⟩, q⟩) hz
theorem hu66 {k : Nat} {A : Around} (hr : Room k A) : A.units + 66 < cLine := by
  have := hr.un
  omega
end
section
variable {K : PySem.W.Frag}
def rprD {α : Type} [Rp α] [Dt α] (x : α) : Str := (Dt.dt x).shown
def rprDok {α : Type} [Rp α] [Dt α] (x : α) : Bool := (Dt.dt x).showable && decide ((Dt.dt x).shown.length ≤ sizeLine)
theorem c_reprD {α : Type} [Rp α] [Dt α] {x : α} (hd : Dt.dep α ≤ 64) (h : rprDok x = true) : Cb (rReprD K) [pv K x] (pv K (rprD x)) := cb1 fun I N v Q d hv q => by
  unfold rprDok at h
  rw [Bool.and_eq_true] at h
  exact ⟨v, _, rfl, dp_up (ex_ov d) hv, h.1, shaped_of hd x, of_decide_eq_true h.2, q _ I (Ex.refl I) d rfl⟩
end
end Mir

/-! Mir12: a law's end over a def that is run without guards -/
namespace Mir
open PySem PySem.Spec PyProof.Rows L2
theorem law_G {P : Program} {w : World} {K : PySem.W.Frag} {mg mb : Str → Option Value} {CX : CXT} {k : Nat} {fa a : Addr} {fd : FuncData} {x : Str} {sp : Sp} {st : Shared} {vs : List Value} {is : List Int}
    (inK : K.In st.heap) (hm : st.heap.Ns mainGlobals mg) (hb : st.heap.Ns builtinsNs mb) (hbb : ∀ y : Str, y ≠ "__name__" → mb y = bootBuiltins y) (nl : st.heap.NoLimit) (gn : st.gens = #[]) (obj : st.heap.get? a = some { cls := .type "list", data := .seq vs.toArray }) (itg : IntsAre vs is) (len : is.length ≤ sizeLine) (room : Room k callerA)
    (F : ∀ b0 : Heap, K.In b0 → b0.Ns mainGlobals mg → FnG P w K mg b0 CX k fa fd [x] sp) (bind : ∀ (s : Shared) (u : Value), BindsTo s fd ⟨[u], []⟩ [(x, u)]) (prom : ∀ H : Hp, Only H → SqL K H a (is.map V.int) → sp [.ref a] H (fun v _ => v = .bl true) fun _ _ _ => False) (noX : ∀ H e s', CX [] H st (fun _ _ _ => False) e s' → False) :
    codeAny (model P w) callerA (.call (.ref fa) ⟨[.ref a], []⟩) (fun r s' => r = .ok (.ret (.bool true)) ∧ OldK st.heap s'.heap ∧ s'.os = st.os ∧ AllBare s'.gens) st := by
  have rv := vals_ints itg
  have lv := itg.length
  have go : ∀ H : Hp, Only H → SqL K H a (is.map V.int) → HOk P w H st.heap → (∀ b, H b ≠ none → b = a) → (H a ≠ none → K.lookup a = none) → codeAny (model P w) callerA (.call (.ref fa) ⟨[.ref a], []⟩) (fun r s' => r = .ok (.ret (.bool true)) ∧ OldK st.heap s'.heap ∧ s'.os = st.os ∧ AllBare s'.gens) st := by
    intro H only sq ok atA notK
    have hid : ∀ {b : Addr} {o : Obj}, st.heap.get? b = some o → H b = none → (hidT st.heap H).get? b = some o := fun e n => hidT_get e n
    have isA : ∀ {b : Addr}, H b ≠ none → b = a := fun {b} h => atA b h
    have dictN : ∀ {b : Addr} {o : Obj} {es : Array DictEntry} {ep : Nat}, st.heap.get? b = some o → o.data = .dict es ep → H b = none := fun {b o es ep} e d => by
      by_cases n : H b = none
      · exact n
      · have := isA n
        subst this
        rw [obj] at e
        cases e
        exact absurd (show Data.seq vs.toArray _ = Data.dict es ep from d) (fun z => by cases z)
    have nsH : ∀ {b : Addr} {m : Str → Option Value}, st.heap.Ns b m → (hidT st.heap H).Ns b m := fun {b m} ⟨o, es, ep, e, d, r⟩ => ⟨o, es, ep, hid e (dictN e d), d, r⟩
    have inH : K.In (hidT st.heap H) := fun b o e => hid (inK b o e) (by
      by_cases n : H b = none
      · exact n
      · have := isA n
        subst this
        rw [notK n] at e
        cases e)
    have env : Env0 P w K mg (hidT st.heap H) callerA [] st H := ⟨rfl, ⟨inH, nsH hm, ⟨mb, nsH hb, hbb⟩, let ⟨mc, h1, h2⟩ := nl; ⟨mc, nsH h1, h2⟩⟩, fun b o e => of_hidT e, Nat.le_of_eq (hidT_size _ _), trivial, fun b h => absurd (show b ∈ ([] : List Addr) from h) (by simp), ok, .of_eq gn⟩
    refine codeAny_mono ((F _ inH (nsH hm)).run callerA [] st H ⟨[.ref a], []⟩ [.ref a] [.ref a] _ _ rfl room env (bind st (.ref a)) (.cons rfl .nil) (prom H only sq)) fun r s' h => ?_
    match r, h with
    | .error e, h => exact (noX H e s' h).elim
    | .ok .next, h => exact False.elim h
    | .ok .brk, h => exact False.elim h
    | .ok .cont, h => exact False.elim h
    | .ok (.ret u), ⟨v, H2, os, bare, un, ok2, rel, q⟩ =>
      obtain rfl : v = .bl true := q
      obtain rfl : u = Value.bool true := rel
      refine ⟨rfl, OldK.of_keep fun b o e => ?_, os, bare⟩
      cases n : H b with
      | none => exact un.keep b o e n (fun z => absurd (show b ∈ ([] : List Addr) from z) (by simp)) (by simp)
      | some u =>
        rcases only b with z | ⟨ob, xs, z⟩
        · rw [n] at z; cases z
        · obtain ⟨e1, _⟩ := ok b _ z
          obtain ⟨e2, _⟩ := ok2 b _ (un.frzs b ob _ z)
          rw [e] at e1
          cases e1
          exact e2
  cases hk : K.lookup a with
  | some o =>
    have e := inK a o hk
    rw [obj] at e
    cases e
    exact go (fun _ => none) (fun _ => .inl rfl) (.inr ⟨_, vs.toArray, _, hk, rfl, rfl, rfl, by rw [List.size_toArray, lv]; exact len, by simpa using rv⟩) (fun b u z => nomatch (show (none : Option HO) = some u from z)) (fun b z => absurd rfl z) fun z => absurd rfl z
  | none =>
    have at1 : ∀ {b : Addr} {u : HO}, (if b = a then some (HO.frz { cls := .type "list", data := .seq vs.toArray } (.lst (is.map V.int))) else none) = some u → b = a ∧ u = .frz { cls := .type "list", data := .seq vs.toArray } (.lst (is.map V.int)) := fun {b u} z => by
      by_cases h : b = a
      · rw [if_pos h] at z
        cases z
        exact ⟨h, rfl⟩
      · rw [if_neg h] at z
        cases z
    refine go (fun b => if b = a then some (.frz { cls := .type "list", data := .seq vs.toArray } (.lst (is.map V.int))) else none) (fun b => ?_) (.inl (.inr ⟨_, if_pos rfl⟩)) (fun b u z => ?_) (fun b z => ?_) fun _ => hk
    · by_cases h : b = a
      · exact .inr ⟨_, _, if_pos h⟩
      · exact .inl (if_neg h)
    · obtain ⟨rfl, rfl⟩ := at1 z
      exact ⟨obj, by rw [List.length_map]; exact len, vs, _, rv, obj⟩
    · by_cases h : b = a
      · exact h
      · exact absurd (if_neg h) z
theorem walk_G {l : PySem.W.OpenLaw} {n k : Nat} {q : Program} {loose : List Str} {XP : (Str → Option Value) → Heap → Prop} {YP : World → Heap → Prop} {d : DefRec} {CX : CXT} {x : Str} (hn : l.most = some n) (hn2 : n ≤ sizeLine) (nd : d.params.defaults = []) (room : Room k callerA)
    (F : ∀ (w : World) (mg : Str → Option Value) (fa : Addr) (h : Heap), YP w h → h.Ns mainGlobals mg → mg d.name = some (.ref fa) → ∃ (K : PySem.W.Frag) (fd : FuncData) (sp : Sp), K.In h ∧ (∀ (s : Shared) (u : Value), BindsTo s fd ⟨[u], []⟩ [(x, u)]) ∧ (∀ (H : Hp) (a : Addr) (is : List Int), is.length ≤ n → Only H → SqL K H a (is.map V.int) → sp [.ref a] H (fun v _ => v = .bl true) fun _ _ _ => False) ∧ ∀ b0 : Heap, K.In b0 → b0.Ns mainGlobals mg → FnG l.prog w K mg b0 CX k fa fd [x] sp)
    (noX : ∀ (H : Hp) (s : Shared) (e : Value) (s' : Shared), CX [] H s (fun _ _ _ => False) e s' → False) : PySem.W.WalkO q loose XP YP l.row.toRowW d [] (fun f vs => PySem.call f vs) := by
  refine Att.attach_call hn nd fun w s₀ s₁ mg mb fa o pm cd doc a vs is G Y ho hd hcd hmg obj itg hlen gn => ?_
  obtain ⟨K, fd, sp, inK, bind, prom, hF⟩ := F w mg fa _ Y G.T.g hmg
  exact law_G inK G.T.g G.T.b G.T.builtins G.T.nolimit gn obj itg (Nat.le_trans hlen hn2) room hF bind (fun H only sq => prom H a is hlen only sq) fun H e s' => noX H s₁ e s'
end Mir

/-! Mir13: instances of a class whose __init__ stores its attributes once -/
namespace Mir
open PySem L2
def ClsN (K : PySem.W.Frag) (C : Addr) (all : List Str) : Prop := Cls K C ∧ ∀ f ∈ all, NoAttr K C f
abbrev Ps (H : Hp) (ps : List PV) (vs : List V) : Prop := All2 (fun (p : PV) v => p.r H v) ps vs
theorem ps_up {H H' : Hp} {ps : List PV} {vs : List V} (e : Ex H H') (h : Ps H ps vs) : Ps H' ps vs := h.imp fun p _ q => p.up e q
/-- a made instance, read only -/
def insR (K : PySem.W.Frag) (all ns : List Str) (ps : List PV) (H : Hp) (v : V) : Prop := ∃ a C dx vs, v = .ref a ∧ H a = some (.ins C dx (ns.zip vs)) ∧ ClsN K C all ∧ Ps H ps vs
theorem insR_up {K : PySem.W.Frag} {all ns : List Str} {ps : List PV} {H H' : Hp} {v : V} (e : Ex H H') : insR K all ns ps H v → insR K all ns ps H' v := fun ⟨a, C, dx, vs, h1, h2, h3, h4⟩ => ⟨a, C, dx, vs, h1, e _ _ h2, h3, ps_up e h4⟩
/-- an instance that is being made -/
def insM (a C dx : Addr) (fs : List (Str × V)) : Hp := ov (sing a (.ins C dx fs)) (sing dx (.own a))
theorem upd_ins {a : Addr} {o o' : HO} {D M I : Hp} : upd (ov (ov (ov (sing a o) D) M) I) a o' = ov (ov (ov (sing a o') D) M) I := by
  rw [← ov_assoc (A := sing a o) (B := D) (C := M), upd_own, ov_assoc (A := sing a o') (B := D) (C := M)]
def oin (C : Addr) (ns : List Str) (ps : List PV) : OP := ⟨fun I a M => ∃ dx vs, dx ≠ a ∧ M = insM a C dx (ns.zip vs) ∧ Ps I ps vs, fun e ⟨dx, vs, h1, h2, h3⟩ => ⟨dx, vs, h1, h2, ps_up e h3⟩⟩
theorem zip_look {ns : List Str} {f : Str} : ∀ {i : Nat} {ps : List PV} {vs : List V} {H : Hp} {p : PV}, Ps H ps vs → ns.findIdx? (· == f) = some i → ps[i]? = some p → ∃ v, (ns.zip vs).lookup f = some v ∧ p.r H v := by
  induction ns with
  | nil => intro i ps vs H p _ h _; simp at h
  | cons n ns ih =>
    intro i ps vs H p hp h hi
    cases hp with
    | nil => simp at hi
    | cons h1 h2 =>
      rename_i q v ps vs
      rw [List.zip_cons_cons, List.lookup_cons]
      rw [List.findIdx?_cons] at h
      by_cases e : (n == f) = true
      · rw [if_pos e] at h
        cases h
        have e2 : (f == n) = true := by rw [LawfulBEq.eq_of_beq e]; exact beq_self_eq_true f
        rw [e2]
        cases hi
        exact ⟨v, rfl, h1⟩
      · rw [if_neg e] at h
        obtain ⟨j, hj, rfl⟩ := Option.map_eq_some_iff.mp h
        have e2 : (f == n) = false := by
          cases q : (f == n) with
          | false => rfl
          | true => exact absurd (by rw [LawfulBEq.eq_of_beq q]; exact beq_self_eq_true n) e
        rw [e2]
        exact ih h2 hj (by simpa using hi)
section
variable {K : PySem.W.Frag} {all ns : List Str} {ps : List PV} {f : Str} {i : Nat}
/-- o.f -/
theorem ep_fld {Γ : List Sl} {te : TE} {q p : PV} (h : EP te Γ q) (hq : ∀ H v, q.r H v → insR K all ns ps H v) (hi : ns.findIdx? (· == f) = some i) (hf : f ∈ all) (hp : ps[i]? = some p) : EP (tFld K te f) Γ p := fun I F N σ e d Q k =>
  h I F N σ e d _ fun v I1 a1 d1 r1 => by
    obtain ⟨a, C, dx, vs, h1, h2, h3, h4⟩ := hq _ _ r1
    obtain ⟨u, g1, g2⟩ := zip_look h4 hi hp
    exact ⟨a, C, dx, _, u, h1, ex_ov d1 _ _ h2, h3.1, h3.2 f hf, g1, k u I1 a1 d1 g2⟩
/-- self.f, while it is made -/
theorem ep_fldO {Γ : List Sl} {C : Addr} {j : Nat} {w : V} {p : PV} (hj : Γ[j]? = some (.ow ((oin C ns ps).at w))) (hc : ClsN K C all) (hi : ns.findIdx? (· == f) = some i) (hf : f ∈ all) (hp : ps[i]? = some p) : EP (tFld K (tVar j) f) Γ p := fun I F N σ e d Q k => by
  obtain ⟨a, Ma, M', h1, ⟨_, dx, vs, h2, h3, h4⟩, h5, h6⟩ := e.foc hj
  obtain ⟨u, g1, g2⟩ := zip_look h4 hi hp
  refine ⟨_, h1, a, C, dx, _, u, rfl, ?_, hc.1, hc.2 f hf, g1, k u I (Ex.refl I) d g2⟩
  rw [h6, h3]
  exact ov_l (ov_l (ov_l sing_same))
theorem putF_new : ∀ {ns : List Str} {vs : List V} {y : V}, ns.length = vs.length → f ∉ ns → putF f y (ns.zip vs) = (ns ++ [f]).zip (vs ++ [y])
  | [], [], y, _, _ => rfl
  | n :: ns, v :: vs, y, hl, hn => by
    have h1 : ¬ n = f := fun e => hn (e ▸ List.mem_cons_self ..)
    have ih := putF_new (ns := ns) (vs := vs) (y := y) (by simpa using hl) fun h => hn (List.mem_cons_of_mem _ h)
    show (if n = f then (n, y) :: ns.zip vs else (n, v) :: putF f y (ns.zip vs)) = (n, v) :: (ns ++ [f]).zip (vs ++ [y])
    rw [if_neg h1, ih]
  | [], _ :: _, _, h, _ => by simp at h
  | _ :: _, [], _, h, _ => by simp at h
/-- self.f = e, a new attribute -/
theorem rp_fldI {S α : Type} [SH S] [Rp α] {Γ : S → List Sl} {te : TE} {C : Addr} {j : Nat} {w : V} {m : Mn S α} {Γ' : α → S → List Sl} (hj : ∀ s, (Γ s)[j]? = some (.ow ((oin C ns ps).at w))) (hl : ns.length = ps.length) (hc : ClsN K C all) (hf : f ∈ all) (hn : f ∉ ns) (h9 : ns.length < 1000) (h : EM K te Γ m) (hΓ : ∀ x s, (Γ s).set j (.ow ((oin C (ns ++ [f]) (ps ++ [pv K x])).at w)) = Γ' x s) : RP (sFld K (tVar j) te f) Γ m Γ' := fun s I F N σ e d D q =>
  h s I F N σ e d _ (R.sat_imp q fun x s1 q v I1 N1 a1 d1 e1 r1 => by
    obtain ⟨a, Ma, M', h1, ⟨hw, dx, vs, h2, h3, h4⟩, h5, h6, h7, _⟩ := e1.foc (hj s1)
    subst h6 h3
    obtain ⟨y1, y2⟩ := dis_ov_l d1
    have hv : ns.length = vs.length := by rw [hl]; exact h4.length
    refine ⟨_, h1, a, C, dx, _, rfl, ov_l (ov_l (ov_l sing_same)), hc.1, hc.2 f hf, ?_, ?_⟩
    · rw [List.length_zip, ← hv, Nat.min_self]; exact h9
    · rw [putF_new hv hn]
      have dN : Dis (insM a C dx ((ns ++ [f]).zip (vs ++ [v]))) M' := fun b => by
        rcases h5 b with z | z
        · left
          obtain ⟨z1, z2⟩ := ov_none z
          refine ov_none' ?_ z2
          by_cases eb : b = a
          · subst eb; rw [sing_same] at z1; cases z1
          · exact sing_ne eb
        · exact .inr z
      have dI : Dis (insM a C dx ((ns ++ [f]).zip (vs ++ [v]))) I1 := fun b => by
        rcases y1 b with z | z
        · left
          obtain ⟨z1, z2⟩ := ov_none z
          refine ov_none' ?_ z2
          by_cases eb : b = a
          · subst eb; rw [sing_same] at z1; cases z1
          · exact sing_ne eb
        · exact .inr z
      have e2 : upd (ov (ov (insM a C dx (ns.zip vs)) M') I1) a (.ins C dx ((ns ++ [f]).zip (vs ++ [v]))) = ov (ov (insM a C dx ((ns ++ [f]).zip (vs ++ [v]))) M') I1 := by
        exact upd_ins
      rw [e2]
      refine q I1 _ σ a1 (dis_ov dI y2) ?_
      rw [← hΓ]
      exact h7 I1 _ _ (Ex.refl I1) dN ⟨hw, dx, _, h2, rfl, h4.append (.cons r1 .nil)⟩)
/-! ### what __init__ promises; C(e, ..) -/
def PromI {α ι : Type} (C : Addr) (ns : List Str) (As : ι → List PV) (m : ι → Mn Unit α) (fl : α → List PV) : Sp := fun vs H Q _ => ∃ (i : ι) (I N : Hp) (a dx : Addr) (us : List V), vs = .ref a :: us ∧ dx ≠ a ∧ H = ov (ov (insM a C dx []) N) I ∧ Dis (insM a C dx []) N ∧ Dis (ov (insM a C dx []) N) I ∧ Ps I (As i) us ∧
  (m i ()).sat fun x _ => ∀ I' M', Ex I I' → (oin C ns (fl x)).r I' a M' → Dis M' N → Dis (ov M' N) I' → Q .non (ov (ov M' N) I')
theorem promI_len {α ι : Type} {C : Addr} {As : ι → List PV} {m : ι → Mn Unit α} {fl : α → List PV} {n : Nat} (h : ∀ i, (As i).length = n) : ∀ vs H Q E, PromI C ns As m fl vs H Q E → vs.length = n + 1 := fun vs H Q E ⟨i, I, N, a, dx, us, h1, _, _, _, _, h5, _⟩ => by
  rw [h1, List.length_cons, ← h5.length, h i]
theorem eo_make {S ζ α ι : Type} [SH S] {Γ : S → List Sl} {ta : TA} {E : XK} {C : Addr} {As : ι → List PV} {m : ι → Mn Unit α} {fl : α → List PV} {mm : Mn S ζ} {psf : ζ → List PV} {g : ζ → ι} (h : AM ta Γ mm psf) (hA : ∀ z, As (g z) = psf z) : EO (tMake C (PromI C ns As m fl) [] E ta) Γ (mb mm fun z => mu (m (g z))) (rOw fun x => oin C ns (fl x)) := fun s I F N σ e d Q q =>
  h s I F N σ e d _ (R.sat_imp (sat_mb.mp q) fun z s1 q vs I1 N1 a1 d1 e1 r1 => fun x dx hx hdx hne => by
    obtain ⟨x1, x2⟩ := ov_none hx
    obtain ⟨z1, z2⟩ := ov_none hdx
    have eH : upd (upd (ov N1 I1) dx (.own x)) x (.ins C dx []) = ov (ov (insM x C dx []) N1) I1 := by
      unfold insM
      rw [upd_sing, upd_sing, ov_assoc, ov_assoc]
    have dN : Dis (insM x C dx []) N1 := dis_ov (dis_sing x1) (dis_sing z1)
    have dI : Dis (insM x C dx []) I1 := dis_ov (dis_sing x2) (dis_sing z2)
    rw [List.append_nil, eH]
    refine ⟨g z, I1, N1, x, dx, vs, rfl, hne, rfl, dN, dis_ov dI d1, by rw [hA]; exact r1, R.sat_imp (sat_mu.mp q) fun y _ q I2 M2 a2 o2 d2 d3 => ⟨rfl, ?_⟩⟩
    exact q _ _ I2 N1 (a1.trans a2) (e1.up a2) ⟨x, M2, rfl, d2, d3, rfl, o2⟩)
/-- what was made, kept as a value -/
theorem fr_oin {C : Addr} (hc : ClsN K C all) : ∀ I a Ma, Dis Ma I → (oin C ns ps).r I a Ma → insR K all ns ps (ov Ma I) (.ref a) := fun I a Ma d ⟨dx, vs, h1, h2, h3⟩ => ⟨a, C, dx, vs, rfl, by rw [h2]; exact ov_l (ov_l sing_same), hc, ps_up (ex_ov d) h3⟩
/-- __init__ keeps its promise -/
theorem promI_ok {α ι : Type} {C : Addr} {As : ι → List PV} {m : ι → Mn Unit α} {fl : α → List PV} {t : TS} {N : List Str} {v : V} {us : List V} {H : Hp} {Q : VK} {E : XK} {n : Nat} (k : Nat) (hA : ∀ i, (As i).length = n) (hk : N.length - (n + 1) = k)
    (h : ∀ i, RP t (fun _ => .ow ((oin C [] []).at v) :: ((As i).map Sl.im ++ List.replicate k .no)) (m i) (fun x _ => .ow ((oin C ns (fl x)).at v) :: (List.replicate n .no ++ List.replicate k .no))) (p : PromI C ns As m fl (v :: us) H Q E) : t { nx := fun _ H' => Q .non H', rt := Q } (L2.start N (v :: us)) H := by
  have hl := promI_len hA _ H Q E p
  obtain ⟨i, I, M, a, dx, us', e0, hne, rfl, d1, d2, r, q⟩ := p
  obtain ⟨rfl, rfl⟩ := List.cons.inj e0
  have es : L2.start N (.ref a :: us) = some (.ref a) :: (us.map some ++ List.replicate k none) := by
    unfold L2.start
    rw [hl, hk]
    rfl
  rw [es]
  have ee : EnvOk I M (ov (insM a C dx []) M) (some (.ref a) :: (us.map some ++ List.replicate k none)) (.ow ((oin C [] []).at (.ref a)) :: ((As i).map Sl.im ++ List.replicate k .no)) :=
    .ow ⟨rfl, dx, [], hne, rfl, .nil⟩ d1 ((EnvOk.ims r).app k)
  refine h i () I M _ _ (EnvG.of ee) d2 _ (R.sat_imp q fun x _ q I' N' σ' a1 d3 e1 => ?_)
  have hno : ∀ {n k : Nat} {N2 : Hp} {σ : L2.St}, EnvOk I' M N2 σ (List.replicate n .no ++ List.replicate k .no) → N2 = M := fun {n k N2 σ} e => by
    rw [List.replicate_append_replicate] at e
    exact EnvOk.nos e
  cases e1.unit with
  | ow q1 d4 e4 =>
    cases hno e4
    obtain ⟨hw, q1⟩ := q1
    cases hw
    exact q I' _ a1 q1 d4 d3
end
end Mir

/-! Mir14: small things: None or not, compared; lists of mixed types; lists unpacked, turned round -/
namespace Mir
open PySem L2
/-- a type without None -/
class Nn (α : Type) [Rp α] : Prop where
  nn : ∀ {K : PySem.W.Frag} {x : α} {H : Hp} {v : V}, Rp.r K x H v → v ≠ .non
instance nnInt : Nn Int := ⟨fun h q => by rw [show _ = V.int _ from h] at q; cases q⟩
instance nnBool : Nn Bool := ⟨fun h q => by rw [show _ = V.bl _ from h] at q; cases q⟩
instance nnStr : Nn Str := ⟨fun h q => by rw [show _ = V.str _ from h] at q; cases q⟩
instance nnList {α : Type} [Rp α] : Nn (List α) := ⟨fun ⟨a, vs, h, _⟩ q => by rw [h] at q; cases q⟩
instance nnTu {α : Type} [Rp α] : Nn (Tu α) := ⟨fun ⟨a, vs, h, _⟩ q => by rw [h] at q; cases q⟩
instance nnProd {α β : Type} [Rp α] [Rp β] : Nn (α × β) := ⟨fun ⟨a, v1, v2, h, _⟩ q => by rw [h] at q; cases q⟩
instance nnT3 {α β γ : Type} [Rp α] [Rp β] [Rp γ] : Nn (T3 α β γ) := ⟨fun ⟨a, v1, v2, v3, h, _⟩ q => by rw [h] at q; cases q⟩
instance nnT4 {α β γ δ : Type} [Rp α] [Rp β] [Rp γ] [Rp δ] : Nn (T4 α β γ δ) := ⟨fun ⟨a, v1, v2, v3, v4, h, _⟩ q => by rw [h] at q; cases q⟩
section
variable {K : PySem.W.Frag}
theorem ep_someN {α : Type} [Rp α] [Nn α] {Γ : List Sl} {te : TE} {x : α} (h : EP te Γ (pv K x)) : EP te Γ (pv K (some x)) := ep_some (fun _ _ q => Nn.nn q) h
theorem em_someN {S α : Type} [SH S] [Rp α] [Nn α] {Γ : S → List Sl} {te : TE} {m : Mn S α} (h : EM K te Γ m) : EM K te Γ (mb m fun x => mp (some x)) := em_some (fun _ _ _ q => Nn.nn q) h
end
instance scOptI : Sc (Option Int) := ⟨fun x => match x with
  | none => V.non
  | some i => V.int i, fun {K x H v} => by
    cases x with
    | none => exact Iff.rfl
    | some i => exact ⟨fun h => h.1, fun h => ⟨h, fun q => by rw [show v = V.int i from h] at q; cases q⟩⟩⟩
instance eqsOptI : Eqs (Option Int) := ⟨fun x y => by cases x <;> cases y <;> rfl, fun x y h => by
  cases x with
  | none => cases y with
    | none => rfl
    | some j => cases h
  | some i => cases y with
    | none => cases h
    | some j => cases (V.int.inj h); rfl⟩
/-! ### data of more types -/
instance dtBool : Dt Bool := ⟨.bool, fun h => by rw [show _ = V.bl _ from h]; exact .bl _, fun _ => by simp [PyData.canLay0], 0, fun _ => by simp [PyData.depth], fun x y => by simp [PyData.eqv]⟩
instance dtOptI : Dt (Option Int) := ⟨fun x => match x with
  | none => .none
  | some i => .int i, fun {K x H v} h => by
    cases x with
    | none => rw [show v = V.non from h]; exact .non
    | some i => rw [show v = V.int i from h.1]; exact .int _, fun x => by cases x <;> simp [PyData.canLay0], 0, fun x => by cases x <;> simp [PyData.depth], fun x y => by cases x <;> cases y <;> simp [PyData.eqv]⟩
/-- a list of three of mixed types -/
structure L3 (α β γ : Type) where
  a : α
  b : β
  c : γ
  deriving DecidableEq
instance rpL3 {α β γ : Type} [Rp α] [Rp β] [Rp γ] : Rp (L3 α β γ) := ⟨fun K x H v => ∃ p v1 v2 v3, v = V.ref p ∧ H p = some (.lst [v1, v2, v3]) ∧ Rp.r K x.a H v1 ∧ Rp.r K x.b H v2 ∧ Rp.r K x.c H v3,
  fun e ⟨p, v1, v2, v3, h1, h2, h3, h4, h5⟩ => ⟨p, v1, v2, v3, h1, e _ _ h2, Rp.up e h3, Rp.up e h4, Rp.up e h5⟩⟩
instance dtL3 {α β γ : Type} [Rp α] [Rp β] [Rp γ] [Dt α] [Dt β] [Dt γ] : Dt (L3 α β γ) := ⟨fun x => .list [Dt.dt x.a, Dt.dt x.b, Dt.dt x.c], fun ⟨p, v1, v2, v3, h1, h2, h3, h4, h5⟩ => by
    rw [h1]
    exact .lst (SqL.of h2) (.cons (Dt.rel h3) (.cons (Dt.rel h4) (.cons (Dt.rel h5) .nil))), fun x => by simp [PyData.canLay0, PyData.canLayAll0, Dt.lay], max (Dt.dep α) (max (Dt.dep β) (Dt.dep γ)) + 1, fun x => by
    have h1 := Dt.dpt x.a
    have h2 := Dt.dpt x.b
    have h3 := Dt.dpt x.c
    simp [PyData.depth, PyData.depthAll]
    omega, fun x y => by
    have h1 := Dt.eqv x.a y.a
    have h2 := Dt.eqv x.b y.b
    have h3 := Dt.eqv x.c y.c
    obtain ⟨a, b, c⟩ := x
    obtain ⟨a', b', c'⟩ := y
    simp only at h1 h2 h3
    simp [PyData.eqv, PyData.eqvAll, h1, h2, h3]⟩
section
variable {K : PySem.W.Frag} {S α β γ ζ : Type} [SH S] [Rp α] [Rp β] [Rp γ]
theorem em_l3 {Γ : S → List Sl} {ta : TA} {m : Mn S ζ} {f : ζ → L3 α β γ} (h : AM ta Γ m fun z => [pv K (f z).a, pv K (f z).b, pv K (f z).c]) : EM K (tLst ta) Γ (mb m fun z => mp (f z)) := fun s I F N σ e d Q q =>
  h s I F N σ e d _ (R.sat_imp (sat_mb.mp q) fun z s1 q vs I1 N1 a1 d1 e1 r1 => by
    obtain ⟨v1, _, rfl, r5, r⟩ := all2_c r1
    obtain ⟨v2, _, rfl, r2, r⟩ := all2_c r
    obtain ⟨v3, _, rfl, r3, r⟩ := all2_c r
    cases all2_n r
    refine ⟨sz2 (by show 3 ≤ 1000; decide), fun p hp => ?_⟩
    obtain ⟨h1, h2⟩ := ov_none hp
    have ex : Ex I1 (upd I1 p (.lst [v1, v2, v3])) := Ex.new h2
    rw [ov_upd h1]
    exact q _ _ N1 (a1.trans ex) (dis_upd d1 h1) (e1.up ex) ⟨p, v1, v2, v3, rfl, upd_same, Rp.up ex r5, Rp.up ex r2, Rp.up ex r3⟩)
theorem of_rs {I : Hp} : ∀ {w : List α} {vs : List V}, Rs K w I vs → All2 (fun (p : PV) v => p.r I v) (w.map (pv K)) vs
  | _, _, .nil => .nil
  | _, _, .cons h t => .cons h (of_rs t)
/-- a, b, .. = a list -/
theorem rp_unpL {Γ : S → List Sl} {te : TE} {m : Mn S (List Int)} {Γ' : List Int → S → List Sl} {n : Nat} (js : List Nat) (h : EM K te Γ m) (hj : ∀ s, asgOk (Γ s) js n) (hΓ : ∀ w s, setG (Γ s) js ((List.range n).map fun i => .im (pv K (w.getD i 0))) = Γ' w s) : RP (tAsg te (gLst K n (gNames js))) Γ (mb m fun w => mc (decide (w.length = n)) w) Γ' := fun s I F N σ e d D q =>
  h s I F N σ e d _ (R.sat_imp (sat_mb.mp q) fun w s1 q v I1 N1 a1 d1 e1 ⟨a, vs, h1, h2, h3⟩ => by
    obtain ⟨c, q⟩ := sat_mc.mp q
    have c : w.length = n := of_decide_eq_true c
    have hv : vs.length = n := by rw [← h3.length, c]
    subst h1
    refine ⟨a, vs, rfl, SqL.of (ex_ov d1 _ _ h2), hv, gNames_ok js vs σ _ _ (hv.trans (hj s1).1.symm) ?_⟩
    refine q I1 N1 _ a1 d1 ?_
    rw [← hΓ]
    have e3 : All2 (fun (p : PV) v => p.r I1 v) ((List.range n).map fun i => pv K (w.getD i 0)) vs := by
      have hw : (List.range n).map (fun i => pv K (w.getD i 0)) = w.map (pv K) := by
        apply List.ext_getElem
        · simp [c]
        · intro i g1 g2
          simp only [List.length_map] at g2
          simp [List.getD_eq_getElem?_getD, List.getElem?_eq_getElem g2]
      rw [hw]
      exact of_rs h3
    have e4 : EnvOk I1 N1 N1 (vs.map some) ((List.range n).map fun i => Sl.im (pv K (w.getD i 0))) := by
      have := EnvOk.ims (I := I1) (F := N1) e3
      rw [List.map_map] at this
      exact this
    exact EnvG.takes e1 e4 (by simp [(hj s1).1]) (hj s1).2.1 (hj s1).2.2 (fun c hc => by
      obtain ⟨i, _, rfl⟩ := List.mem_map.mp hc
      exact fun q => nomatch q))
end
end Mir

/-! Mir15: list(range(a, b, c)), len(range(a, b, c)), c positive -/
namespace Mir
open PySem PySem.Spec PyProof.Rows L2
/-- how many: c positive -/
def rgN (a b c : Int) : Nat := if a < b then ((b - a - 1) / c + 1).toNat else 0
def rgC (a b c : Int) : List Int := (List.range (rgN a b c)).map fun i => a + (i : Nat) * c
def rgCok (a b c : Int) : Bool := decide (0 < c) && Builtin.Range.small a b c && decide (c.natAbs < 1073741824) && decide (rgN a b c ≤ 2 ^ 24)
theorem rgCok_at {a b c : Int} (h : rgCok a b c = true) : 0 < c ∧ Builtin.Range.small a b c = true ∧ c.natAbs < 1073741824 ∧ rgN a b c ≤ 2 ^ 24 := by
  unfold rgCok at h
  rw [Bool.and_eq_true, Bool.and_eq_true, Bool.and_eq_true] at h
  exact ⟨of_decide_eq_true h.1.1.1, h.1.1.2, of_decide_eq_true h.1.2, of_decide_eq_true h.2⟩
theorem rgN_size {a b c : Int} (h : 0 < c) : Builtin.Range.rangeSize a b c = (rgN a b c : Nat) := by
  unfold Builtin.Range.rangeSize rgN
  rw [if_pos h]
  by_cases e : a < b
  · rw [if_pos e, if_pos e]
    have : 0 ≤ (b - a - 1) / c := Int.ediv_nonneg (by omega) (by omega)
    omega
  · rw [if_neg e, if_neg e]
    rfl
section
variable {X : Cx} {a b c : Expr} {ta : TA} {p pos : Pos}
/-- an expression that makes a range of three -/
def tRg3 (ta : TA) : L2.St → Hp → (Int → Int → Int → Hp → Prop) → Prop := fun σ H Q => ta σ H fun vs H1 => ∃ i j k, vs = [.int i, .int j, .int k] ∧ k ≠ 0 ∧ k.natAbs < 1073741824 ∧ Q i j k H1
def PRg3 (X : Cx) (e : Expr) (t : L2.St → Hp → (Int → Int → Int → Hp → Prop) → Prop) : Prop :=
  ∀ (pins : List (Addr × Obj)) (s : Shared) (σ : L2.St) (H : Hp) (Q : Int → Int → Int → Hp → Prop), Inv X pins σ H s → t σ H Q → wpAny (model X.prog X.w) X.A (eval e X.env) (fun x s' => ∃ r i j k t u v H', x = .ref r ∧ IsRange s'.heap r i j k t u v ∧ Inv X pins σ H' s' ∧ Q i j k H') X.xe s
theorem prg_3 (hg : Gl X "range") (hm : X.mg "range" = none) (ha : PA X [a, b, c] ta) (hs : starEach [a, b, c] X.env = (false, eval a X.env) :: starEach [b, c] X.env := by rfl) (hpl : (backTo pos (starEach [b, c] X.env)).any (·.1) = false := by rfl) : PRg3 X (.Call (.Name "range" p) [a, b, c] [] pos) (tRg3 ta) := fun pins s σ H Q I h => by
  have h2 : ta σ H fun vs H1 => ∃ i j k, vs = [.int i, .int j, .int k] ∧ k ≠ 0 ∧ k.natAbs < 1073741824 ∧ Q i j k H1 := h
  refine Call_ (ld_blt I hg hm boot_range (PyProof.Rows.callWith_type1 (thn (ha.run pos pins s σ H _ I h2) fun us s1 ⟨vs, H1, I1, r1, q1⟩ => ?_) hs hpl))
  obtain ⟨i, j, k, e, k0, k1, q⟩ := q1
  subst e
  cases r1 with
  | cons r rr =>
    cases rr with
    | cons r' rr =>
      cases rr with
      | cons r'' rr =>
        cases rr
        obtain ⟨t, rfl⟩ := r
        obtain ⟨t', rfl⟩ := r'
        obtain ⟨t'', rfl⟩ := r''
        exact call_range_3 k0 ⟨_, i, j, k, _, _, _, H1, rfl, IsRange.new _ _ _ _ _ _ _, I1.kept fun b u e => Heap.get?_push_of_some _ e, q⟩ (.inl (PyProof.noPylong_small k1))
def tLstRg3 (te : L2.St → Hp → (Int → Int → Int → Hp → Prop) → Prop) : TE := fun σ H Q => te σ H fun i j k H1 => rgCok i j k = true ∧ ∀ q, H1 q = none → Q (.ref q) (upd H1 q (.lst ((rgC i j k).map V.int)))
def tLenRg3 (te : L2.St → Hp → (Int → Int → Int → Hp → Prop) → Prop) : TE := fun σ H Q => te σ H fun i j k H1 => rgCok i j k = true ∧ Q (.int (rgN i j k)) H1
variable {e : Expr} {te : L2.St → Hp → (Int → Int → Int → Hp → Prop) → Prop}
theorem pe_listRg3 (hc : X.calm = true) (hg : Gl X "list") (hm : X.mg "list" = none) (he : PRg3 X e te) (na : starEach [e] X.env = (false, eval e X.env) :: starEach [] X.env := by rfl) : PE X (.Call (.Name "list" p) [e] [] pos) (tLstRg3 te) := ⟨fun pins s σ H Q I h => by
  refine Call_ (ld_blt I hg hm boot_list (PyProof.Rows.callWith_type1 (args_cons (thn (he pins s σ H _ I h) fun x s1 ⟨r, i, j, k, t, u, v, H1, ex, hr, I1, ok, q⟩ => args_nil ?_) na) na))
  subst ex
  obtain ⟨c1, c2, c3, c4⟩ := rgCok_at ok
  refine call_list_range (n := rgN i j k) (I1.ok.hd hc) hr c2 (rgN_size c1) c4 fun h' tk acc n' hk e' hi => ⟨.ref s1.heap.objs.size, upd H1 s1.heap.objs.size (.lst ((rgC i j k).map V.int)), I1.laid hk (Nat.le_refl _) (show ObjOk X.prog X.w _ _ _ (.lst _) from ⟨?_, acc.toList, n', ?_, ?_⟩), rfl, q _ (I1.hok.fresh (Nat.le_refl _))⟩
  · rw [List.length_map]
    unfold rgC
    rw [List.length_map, List.length_range, sizeLine_eq]
    omega
  · have el : acc.toList.length = rgN i j k := by rw [Array.length_toList]; exact hi.1
    unfold rgC
    rw [List.map_map, ← el]
    refine vals_of_get acc.toList _ fun j' u' hj => ?_
    obtain ⟨t', rfl⟩ := hi.2 j' u' (by rw [← hj, Array.getElem?_toList])
    exact ⟨t', rfl⟩
  · rw [Array.toArray_toList]; exact e'⟩
theorem pe_lenRg3 (hg : Gl X "len") (hm : X.mg "len" = none) (he : PRg3 X e te) (na : starEach [e] X.env = (false, eval e X.env) :: starEach [] X.env := by rfl) : PE X (.Call (.Name "len" p) [e] [] pos) (tLenRg3 te) := ⟨fun pins s σ H Q I h => by
  refine Call_ (ld_blt I hg hm boot_len (PyProof.Rows.callWith_builtin1 (args_cons (thn (he pins s σ H _ I h) fun x s1 ⟨r, i, j, k, t, u, v, H1, ex, hr, I1, ok, q⟩ => args_nil ?_) na) na))
  subst ex
  obtain ⟨c1, c2, c3, c4⟩ := rgCok_at ok
  exact call_len_range (n := rgN i j k) hr (rgN_size c1) (by omega) ⟨.int _, H1, I1.tok _, ⟨_, rfl⟩, q⟩⟩
end
end Mir

/-! Mir16: attributes as targets; a class packed -/
namespace Mir
open PySem PySem.Spec PyProof.Rows L2
def gFld (K : PySem.W.Frag) (to : TE) (f : Str) : TG := fun v σ H Q => to σ H fun x H1 => ∃ a C dx fs, x = .ref a ∧ H1 a = some (.ins C dx fs) ∧ Cls K C ∧ NoAttr K C f ∧ fs.length < 1000 ∧ Q σ (upd H1 a (.ins C dx (putF f v fs)))
theorem pg_fldA {X : Cx} {o : Expr} {to : TE} {f : Str} {pos : Pos} (ho : PE X o to) (ha : ∀ v, assign (.Attribute o f pos) X.env v = (do let ov ← holding [v] (eval o X.env); standAt pos.atName; holding [v, ov] (setAttr ov f v); release [v, ov] []) := by intro _; rfl) : PG X (.Attribute o f pos) (gFld X.K to f) := by
  refine ⟨fun pins s σ H v u Q I r h => ?_⟩
  rw [ha]
  refine wpAny_bind (wpAny_holding (thn (ho.run pins s σ H _ I h) fun ov s1 ⟨x, H1, I1, r1, a, C, dx, fs, ex, ea, c, n, l, q⟩ => ?_))
  subst ex
  obtain rfl : ov = Value.ref a := r1
  exact wpAny_bind (wpAny_standAt (wpAny_bind (wpAny_holding (setattr_ok I1 ea c n l r fun s2 I2 => wpAny_release ⟨σ, _, I2, q⟩))))
section
variable {K : PySem.W.Frag} {all ns : List Str} {ps : List PV} {f f1 f2 : Str}
/-- an attribute more -/
theorem fld_step {S : Type} [SH S] {s : S} {α : Type} [Rp α] {x : α} {I F N : Hp} {Γs : List Sl} {σ : L2.St} {C : Addr} {j : Nat} {w v : V} (hj : Γs[j]? = some (.ow ((oin C ns ps).at w))) (hl : ns.length = ps.length) (hc : ClsN K C all) (hf : f ∈ all) (hn : f ∉ ns) (h9 : ns.length < 1000) (e : EnvG s I F N σ Γs) (d : Dis N I) (r : Rp.r K x I v) :
    ∃ a dx fs, σ[j]? = some (some (.ref a)) ∧ ov N I a = some (.ins C dx fs) ∧ Cls K C ∧ NoAttr K C f ∧ fs.length < 1000 ∧ ∃ N', upd (ov N I) a (.ins C dx (putF f v fs)) = ov N' I ∧ Dis N' I ∧ EnvG s I F N' σ (Γs.set j (.ow ((oin C (ns ++ [f]) (ps ++ [pv K x])).at w))) := by
  obtain ⟨a, Ma, M', h1, ⟨hw, dx, vs, h2, h3, h4⟩, h5, h6, h7, _⟩ := e.foc hj
  subst h6 h3
  obtain ⟨y1, y2⟩ := dis_ov_l d
  have hv : ns.length = vs.length := by rw [hl]; exact h4.length
  have keep : ∀ {B : Hp}, Dis (insM a C dx (ns.zip vs)) B → Dis (insM a C dx ((ns ++ [f]).zip (vs ++ [v]))) B := fun {B} q b => by
    rcases q b with z | z
    · left
      obtain ⟨z1, z2⟩ := ov_none z
      refine ov_none' ?_ z2
      by_cases eb : b = a
      · subst eb; rw [sing_same] at z1; cases z1
      · exact sing_ne eb
    · exact .inr z
  refine ⟨a, dx, _, h1, ov_l (ov_l (ov_l sing_same)), hc.1, hc.2 f hf, by rw [List.length_zip, ← hv, Nat.min_self]; exact h9, _, ?_, dis_ov (keep y1) y2, h7 I _ _ (Ex.refl I) (keep h5) ⟨hw, dx, _, h2, rfl, h4.append (.cons r .nil)⟩⟩
  rw [putF_new hv hn]
  exact upd_ins
/-- self.f1, self.f2 = a pair -/
theorem rp_tupF2 {S α β : Type} [SH S] [Rp α] [Rp β] {Γ : S → List Sl} {te : TE} {C : Addr} {j : Nat} {w : V} {m : Mn S (α × β)} {Γ' : α × β → S → List Sl} (hj : ∀ s, (Γ s)[j]? = some (.ow ((oin C ns ps).at w))) (hj2 : ∀ s, j < (Γ s).length) (hl : ns.length = ps.length) (hc : ClsN K C all) (hf : f1 ∈ all) (hf2 : f2 ∈ all) (hn : f1 ∉ ns) (hn2 : f2 ∉ ns ++ [f1]) (h9 : ns.length < 998) (h : EM K te Γ m)
    (hΓ : ∀ x s, (Γ s).set j (.ow ((oin C (ns ++ [f1] ++ [f2]) (ps ++ [pv K x.1] ++ [pv K x.2])).at w)) = Γ' x s) : RP (tAsg te (gTup K 2 (gCons (gFld K (tVar j) f1) (gCons (gFld K (tVar j) f2) gNil)))) Γ m Γ' := fun s I F N σ e d D q =>
  h s I F N σ e d _ (R.sat_imp q fun x s1 q v I1 N1 a1 d1 e1 ⟨p, v1, v2, r1, r2, r3, r4⟩ => by
    refine ⟨p, _, r1, sqt_ov d1 r2, rfl, v1, _, rfl, ?_⟩
    obtain ⟨a, dx, fs, g1, g2, g3, g4, g5, N2, g6, g7, g8⟩ := fld_step (hj s1) hl hc hf hn (by omega) e1 d1 r3
    refine ⟨_, g1, a, C, dx, fs, rfl, g2, g3, g4, g5, v2, _, rfl, ?_⟩
    rw [g6]
    obtain ⟨a', dx', fs', k1, k2, k3, k4, k5, N3, k6, k7, k8⟩ := fld_step (j := j) (w := w) (f := f2) (all := all) (List.getElem?_set_self (hj2 s1)) (by rw [List.length_append, List.length_append, hl]; rfl) hc hf2 hn2 (by rw [List.length_append]; exact Nat.lt_trans (Nat.add_lt_add_right h9 1) (by decide)) g8 g7 r4
    refine ⟨_, k1, a', C, dx', fs', rfl, k2, k3, k4, k5, rfl, ?_⟩
    rw [k6]
    refine q I1 N3 σ a1 k7 ?_
    rw [← hΓ, ← List.set_set]
    exact k8)
end
/-- a class packed: C, its __init__ -/
structure MakC (P : Program) (w : World) (K : PySem.W.Frag) (mg : Str → Option Value) (base : Heap) (k : Nat) (x : Str) (all ps : List Str) (spf : Addr → Sp) : Prop where
  ex : ∃ (C f : Addr) (fd : FuncData), mg x = some (.ref C) ∧ Mk K C f ∧ ClsN K C all ∧ FnOk P w K mg base CX0 k f fd ps (spf C) ∧ Binds K fd ps []
end Mir

/-! Mir17: ranges of three, as lists, as lengths -/
namespace Mir
open PySem L2
section
variable {K : PySem.W.Frag} {S ζ : Type} [SH S] {Γ : S → List Sl} {ta : TA} {mm : Mn S ζ} {f g h : ζ → Int}
theorem three {I : Hp} {i j k : Int} {vs : List V} (r : All2 (fun (p : PV) v => p.r I v) [pv K i, pv K j, pv K k] vs) : vs = [.int i, .int j, .int k] := by
  obtain ⟨v1, _, rfl, r1, r⟩ := all2_c r
  obtain ⟨v2, _, rfl, r2, r⟩ := all2_c r
  obtain ⟨v3, _, rfl, r3, r⟩ := all2_c r
  cases all2_n r
  rw [show v1 = V.int i from r1, show v2 = V.int j from r2, show v3 = V.int k from r3]
theorem rgCok_c {i j k : Int} (h : rgCok i j k = true) : k ≠ 0 ∧ k.natAbs < 1073741824 := by
  obtain ⟨c1, _, c3, _⟩ := rgCok_at h
  exact ⟨by omega, c3⟩
theorem eo_listRg3 (hh : AM ta Γ mm fun z => [pv K (f z), pv K (g z), pv K (h z)]) : EO (tLstRg3 (tRg3 ta)) Γ (mb mm fun z => mc (rgCok (f z) (g z) (h z)) (rgC (f z) (g z) (h z))) (rOw (ol K)) := fun s I F N σ e d Q q =>
  hh s I F N σ e d _ (R.sat_imp (sat_mb.mp q) fun z s1 q vs I1 N1 a1 d1 e1 r1 => by
    obtain ⟨c, q⟩ := sat_mc.mp q
    obtain ⟨k0, k1⟩ := rgCok_c c
    exact ⟨_, _, _, three r1, k0, k1, c, fun p hp => q _ _ I1 N1 a1 e1 (new_list d1 hp rs_of_int)⟩)
theorem em_lenRg3 (hh : AM ta Γ mm fun z => [pv K (f z), pv K (g z), pv K (h z)]) : EM K (tLenRg3 (tRg3 ta)) Γ (mb mm fun z => mc (rgCok (f z) (g z) (h z)) ((rgN (f z) (g z) (h z) : Nat) : Int)) := fun s I F N σ e d Q q =>
  hh s I F N σ e d _ (R.sat_imp (sat_mb.mp q) fun z s1 q vs I1 N1 a1 d1 e1 r1 => by
    obtain ⟨c, q⟩ := sat_mc.mp q
    obtain ⟨k0, k1⟩ := rgCok_c c
    exact ⟨_, _, _, three r1, k0, k1, c, q _ I1 N1 a1 d1 e1 rfl⟩)
/-- xs.reverse() -/
theorem rp_revL {S α : Type} [SH S] [Rp α] {Γ : S → List Sl} {xs : List α} {j : Nat} {Γ' : List α → S → List Sl} (hj : ∀ s, (Γ s)[j]? = some (.ow (ol K xs))) (hΓ : ∀ ys s, (Γ s).set j (.ow (ol K ys)) = Γ' ys s) : RP (tDrop (tBM0 K "list" rReverse (tVar j))) Γ (mp xs.reverse) Γ' := fun s I F N σ e d D q => by
  obtain ⟨a, vs, h1, h2, h3⟩ := own_at e (hj s)
  refine ⟨_, h1, .inl ⟨rfl, vs, SqL.of (ov_l h2)⟩, a, vs, rfl, rfl, ov_l h2, ?_⟩
  obtain ⟨N2, x1, x2, x3⟩ := own_upd (P' := ol K xs.reverse) (us := vs.reverse) (vs := vs) (I' := I) (N' := N) e d (hj s) h1 ol_sing ⟨_, rfl, h3.reverse⟩
  rw [x1]
  exact q I N2 σ (Ex.refl I) x2 (by rw [← hΓ]; exact x3)
end
end Mir

/-! Mir18: max of three -/
namespace Mir
open PySem L2
def mx3 (i j k : Int) : Int := if (if i < j then j else i) < k then k else (if i < j then j else i)
theorem nuMax2_int (i j : Int) : nuMax2 (.int i) (.int j) = some (.int (if i < j then j else i)) := by
  show (some (decide (i < j))).map (fun c => if c = true then V.int j else V.int i) = _
  by_cases h : i < j
  · rw [decide_eq_true h, if_pos h]; rfl
  · rw [decide_eq_false h, if_neg h]; rfl
theorem c_max3 {K : PySem.W.Frag} {i j k : Int} : Cb (rNuC3 nuMax3) [pv K i, pv K j, pv K k] (pv K (mx3 i j k)) := fun I N vs Q d r q => by
  refine ⟨_, _, _, .int (mx3 i j k), three r, ?_, q _ I (Ex.refl I) d rfl⟩
  unfold nuMax3
  rw [nuMax2_int]
  exact nuMax2_int _ _
end Mir

/-! Mir19: a list or a tuple; owned comprehensions; owned or None; reversed, zip, enumerate; displays with a star -/
namespace Mir
open PySem L2
/-- a list or a tuple -/
structure Sq (α : Type) where
  t : Bool
  l : List α
  deriving DecidableEq
instance rpSq {α : Type} [Rp α] : Rp (Sq α) := ⟨fun K x H v => match x.t with
  | true => Rp.r K (Tu.mk x.l) H v
  | false => Rp.r K x.l H v, fun {K x H H' v} e h => by
    revert h
    cases x.t with
    | true => exact fun h => Rp.up e h
    | false => exact fun h => Rp.up e h⟩
theorem sq_ref {K : PySem.W.Frag} {α : Type} [Rp α] {x : Sq α} {H : Hp} {v : V} (h : Rp.r K x H v) : ∃ a vs, v = .ref a ∧ (x.t = false ∧ H a = some (.lst vs) ∨ x.t = true ∧ SqT K H a vs) ∧ Rs K x.l H vs := by
  obtain ⟨t, l⟩ := x
  cases t with
  | true =>
    obtain ⟨a, vs, h1, h2, h3⟩ := (show Rp.r K (Tu.mk l) H v from h)
    exact ⟨a, vs, h1, .inr ⟨rfl, h2⟩, h3⟩
  | false =>
    obtain ⟨a, vs, h1, h2, h3⟩ := (show Rp.r K l H v from h)
    exact ⟨a, vs, h1, .inl ⟨rfl, h2⟩, h3⟩
theorem sq_or {K : PySem.W.Frag} {α : Type} [Rp α] {x : Sq α} {I N : Hp} {v : V} (d : Dis N I) (h : Rp.r K x I v) : ∃ a vs, v = .ref a ∧ (SqL K (ov N I) a vs ∨ SqT K (ov N I) a vs) ∧ Rs K x.l I vs := by
  obtain ⟨a, vs, h1, h2, h3⟩ := sq_ref h
  rcases h2 with ⟨_, h2⟩ | ⟨_, h2⟩
  · exact ⟨a, vs, h1, .inl (SqL.of (ex_ov d _ _ h2)), h3⟩
  · exact ⟨a, vs, h1, .inr (sqt_ov d h2), h3⟩
section
variable {K : PySem.W.Frag} {S α β γ ρ ζ τ : Type} [SH S] [Rp α] [Rp β] [Rp γ] {Γ : S → List Sl} {Γ1 : List Sl} {te ta tb : TE} {tl : TA}
/-! a list, a tuple, as one or the other -/
theorem ep_sqL {xs : List α} (h : EP te Γ1 (pv K xs)) : EP te Γ1 (pv K (Sq.mk false xs)) := fun I F N σ e d Q q => h I F N σ e d Q fun v I1 a1 d1 r1 => q v I1 a1 d1 r1
theorem ep_sqT {xs : Tu α} (h : EP te Γ1 (pv K xs)) : EP te Γ1 (pv K (Sq.mk true xs.l)) := fun I F N σ e d Q q => h I F N σ e d Q fun v I1 a1 d1 r1 => q v I1 a1 d1 r1
theorem em_sqL {m : Mn S (List α)} (h : EM K te Γ m) : EM K te Γ (mb m fun x => mp (Sq.mk false x)) := fun s I F N σ e d Q q => h s I F N σ e d Q (R.sat_imp (sat_mb.mp q) fun x s1 q v I1 N1 a1 d1 e1 r1 => q v I1 N1 a1 d1 e1 r1)
theorem em_sqT {m : Mn S (Tu α)} (h : EM K te Γ m) : EM K te Γ (mb m fun x => mp (Sq.mk true x.l)) := fun s I F N σ e d Q q => h s I F N σ e d Q (R.sat_imp (sat_mb.mp q) fun x s1 q v I1 N1 a1 d1 e1 r1 => q v I1 N1 a1 d1 e1 r1)
/-! len, items, slices, in -/
theorem c_lenSq {xs : Sq α} : Cb (fun xs H Q => ∃ p ys, xs = [.ref p] ∧ (SqL K H p ys ∨ SqT K H p ys) ∧ Q (.int ys.length) H) [pv K xs] (pv K (xs.l.length : Int)) := cb1 fun I N v Q d h q => by
  obtain ⟨a, vs, h1, h2, h3⟩ := sq_or d h
  exact ⟨a, vs, by rw [h1], h2, q _ I (Ex.refl I) d (by rw [h3.length]; rfl)⟩
theorem o_ixSq {xs : Sq α} {i : Int} {x : α} (e : atI xs.l i = some x) : Op2 (fun x y H Q => rIxL K x y H Q ∨ rIxT K x y H Q) (pv K xs) (pv K i) (pv K x) := fun I M u w Q d h hy k => by
  obtain ⟨t, l⟩ := xs
  cases t with
  | true => exact .inr (o_ixT (xs := l) e I M u w Q d h hy k)
  | false => exact .inl (o_ixL (xs := l) e I M u w Q d h hy k)
theorem em_ixSqp {xs : Sq α} {i : Int} (ha : ∀ s, EP ta (Γ s) (pv K xs)) (hb : ∀ s, EP tb (Γ s) (pv K i)) : EM K (tOp (fun x y H Q => rIxL K x y H Q ∨ rIxT K x y H Q) ta tb) Γ (mo (atI xs.l i)) := fun s I F N σ e d Q q => by
  obtain ⟨x, hx, q⟩ := sat_mo.mp q
  exact ep_op (ha s) (hb s) (o_ixSq hx) I F N σ e d Q fun v I1 a1 d1 r1 => q v I1 N a1 d1 (e.up a1) r1
theorem em_ixSql {xs : Sq α} {m2 : Mn S Int} (ha : ∀ s, EP ta (Γ s) (pv K xs)) (hb : EM K tb Γ m2) : EM K (tOp (fun x y H Q => rIxL K x y H Q ∨ rIxT K x y H Q) ta tb) Γ (mb m2 fun i => mo (atI xs.l i)) := fun s I F N σ e d Q q =>
  ha s I F N σ e d _ fun v I1 a1 d1 r1 => hb s I1 F N σ (e.up a1) d1 _ (R.sat_imp (sat_mb.mp q) fun i s2 q u I2 N2 a2 d2 e2 r2 => by
    obtain ⟨x, hx, q⟩ := sat_mo.mp q
    exact o_ixSq hx I2 N2 v u Q d2 (Rp.up a2 r1) r2 fun w I3 a3 d3 r3 => q w I3 N2 ((a1.trans a2).trans a3) d3 (e2.up a3) r3)
theorem em_ixSqr {m1 : Mn S (Sq α)} {i : Int} (ha : EM K ta Γ m1) (hb : ∀ s, EP tb (Γ s) (pv K i)) : EM K (tOp (fun x y H Q => rIxL K x y H Q ∨ rIxT K x y H Q) ta tb) Γ (mb m1 fun xs => mo (atI xs.l i)) := fun s I F N σ e d Q q =>
  ha s I F N σ e d _ (R.sat_imp (sat_mb.mp q) fun xs s1 q v I1 N1 a1 d1 e1 r1 => hb s1 I1 F N1 σ e1 d1 _ fun u I2 a2 d2 r2 => by
    obtain ⟨x, hx, q⟩ := sat_mo.mp q
    exact o_ixSq hx I2 N1 v u Q d2 (Rp.up a2 r1) r2 fun w I3 a3 d3 r3 => q w I3 N1 ((a1.trans a2).trans a3) d3 (e1.up (a2.trans a3)) r3)
theorem o_inSq [Sc α] [Fl α] [DecidableEq α] {x : α} {xs : Sq α} : Op2 (rIn K false) (pv K x) (pv K xs) (pv K (decide (x ∈ xs.l))) := fun I N u v Q d hx h q => by
  obtain ⟨t, l⟩ := xs
  cases t with
  | true => exact o_inT (xs := Tu.mk l) I N u v Q d hx h q
  | false => exact o_in (xs := l) I N u v Q d hx h q
theorem o_notInSq [Sc α] [Fl α] [DecidableEq α] {x : α} {xs : Sq α} : Op2 (rIn K true) (pv K x) (pv K xs) (pv K (!decide (x ∈ xs.l))) := fun I N u v Q d hx h q => by
  obtain ⟨t, l⟩ := xs
  cases t with
  | true => exact o_notInT (xs := Tu.mk l) I N u v Q d hx h q
  | false => exact o_notIn (xs := l) I N u v Q d hx h q
/-- t[lo:hi] of a tuple -/
theorem cutL_whole {δ : Type} {xs : List δ} {lo hi : Option Int} (h1 : HT.sIx xs.length 0 lo = 0) (h2 : HT.sIx xs.length xs.length hi = xs.length) : cutL xs lo hi = xs := by
  unfold cutL
  rw [h1, h2]
  simp
def rSlSq (K : PySem.W.Frag) : V → Option Int → Option Int → Hp → VK → Prop := fun x lo hi H Q => rSlL K x lo hi H Q ∨ rSlA K x lo hi H Q
theorem sl_sq {X : Cx} : SlR X (rSlSq X.K) := SlR.or sl_list sl_tupA
theorem sl_val {xs : Sq α} {lo hi : Option Int} {I N : Hp} {v : V} {Q : VK} (d : Dis N I) (r : Rp.r K xs I v) (q : ∀ u I', Ex I I' → Dis N I' → Rp.r K (Sq.mk xs.t (cutL xs.l lo hi)) I' u → Q u (ov N I')) : rSlSq K v lo hi (ov N I) Q := by
  obtain ⟨t, l⟩ := xs
  cases t with
  | true =>
    obtain ⟨a, vs, h1, h2, h3⟩ := (show Rp.r K (Tu.mk l) I v from r)
    refine .inr ⟨a, vs, h1, sqt_ov d h2, fun ⟨w1, w2⟩ => ?_, fun hw p hp => ?_⟩
    · refine q _ I (Ex.refl I) d ?_
      show Rp.r K (Tu.mk (cutL l lo hi)) I (.ref a)
      rw [← h3.length] at w1 w2
      rw [cutL_whole w1 w2]
      exact ⟨a, vs, rfl, h2, h3⟩
    · obtain ⟨m1, m2, m3, m4⟩ := mk_tup (K := K) (vs := cutV vs lo hi) d hp
      rw [m4]
      exact q _ _ m1 m2 ⟨p, _, rfl, m3, rs_up m1 (rs_cut h3)⟩
  | false =>
    obtain ⟨a, vs, h1, h2, h3⟩ := (show Rp.r K l I v from r)
    refine .inl ⟨a, vs, h1, SqL.of (ex_ov d _ _ h2), fun p hp => ?_⟩
    obtain ⟨m1, m2, m3, m4⟩ := mk_list (K := K) (xs := cutL l lo hi) d hp (rs_cut h3)
    rw [m4]
    exact q _ _ m1 m2 m3
theorem ep_slSq {xs : Sq α} {lo hi : Option Int} {t1 t2 : TO} (h : EP te Γ1 (pv K xs)) (h1 : OPa t1 Γ1 lo) (h2 : OPa t2 Γ1 hi) : EP (tSl (rSlSq K) te t1 t2) Γ1 (pv K (Sq.mk xs.t (cutL xs.l lo hi))) := fun I F N σ e d Q q =>
  h I F N σ e d _ fun v I1 a1 d1 r1 => h1 I1 F N σ (e.up a1) d1 _ fun I2 a2 d2 => h2 I2 F N σ (e.up (a1.trans a2)) d2 _ fun I3 a3 d3 =>
    sl_val d3 (Rp.up (a2.trans a3) r1) fun u I4 a4 d4 r4 => q u I4 (((a1.trans a2).trans a3).trans a4) d4 r4
/-- a bound that may be bad -/
def OPm {S : Type} [SH S] (t : TO) (Γ : S → List Sl) (m : Mn S (Option Int)) : Prop := ∀ (s : S) (I F N : Hp) (σ : L2.St), EnvG s I F N σ (Γ s) → Dis N I → ∀ Q : Option Int → Hp → Prop, (m s).sat (fun o s' => ∀ I' N', Ex I I' → Dis N' I' → EnvG s' I' F N' σ (Γ s') → Q o (ov N' I')) → t σ (ov N I) Q
theorem pm_no : OPm (S := S) tNoPart Γ (mp none) := fun s I F N σ e d Q q => q I N (Ex.refl I) d e
theorem pm_i {m : Mn S Int} (h : EM K te Γ m) : OPm (tPart te) Γ (mb m fun i => mp (some i)) := fun s I F N σ e d Q q => h s I F N σ e d _ (R.sat_imp (sat_mb.mp q) fun i s1 q v I1 N1 a1 d1 e1 r1 => ⟨i, r1, q I1 N1 a1 d1 e1⟩)
theorem em_slSq {xs : Sq α} {m1 m2 : Mn S (Option Int)} {t1 t2 : TO} (h : ∀ s, EP te (Γ s) (pv K xs)) (h1 : OPm t1 Γ m1) (h2 : OPm t2 Γ m2) : EM K (tSl (rSlSq K) te t1 t2) Γ (mb m1 fun lo => mb m2 fun hi => mp (Sq.mk xs.t (cutL xs.l lo hi))) := fun s I F N σ e d Q q =>
  h s I F N σ e d _ fun v I1 a1 d1 r1 => h1 s I1 F N σ (e.up a1) d1 _ (R.sat_imp (sat_mb.mp q) fun lo s2 q I2 N2 a2 d2 e2 => h2 s2 I2 F N2 σ e2 d2 _ (R.sat_imp (sat_mb.mp q) fun hi s3 q I3 N3 a3 d3 e3 =>
    sl_val d3 (Rp.up (a2.trans a3) r1) fun u I4 a4 d4 r4 => q u I4 N3 (((a1.trans a2).trans a3).trans a4) d4 (e3.up a4) r4))
theorem tag_sl {t : Bool} {l : List α} {m1 m2 : Mn S (Option Int)} : ∀ s (Q : Sq α → S → Prop), ((mb m1 fun lo => mb m2 fun hi => mp (Sq.mk t (cutL l lo hi))) s).sat Q → ((mb m1 fun lo => mb m2 fun hi => mp (Sq.mk t (cutL l lo hi))) s).sat fun x s' => x.t = t ∧ Q x s' := fun s Q q =>
  sat_mb.mpr (R.sat_imp (sat_mb.mp q) fun lo s q => sat_mb.mpr (R.sat_imp (sat_mb.mp q) fun hi s q => ⟨rfl, q⟩))
/-- bounds that may be bad, of a list -/
theorem em_slL {m0 : Mn S (List α)} {m1 m2 : Mn S (Option Int)} {t1 t2 : TO} (h : EM K te Γ m0) (h1 : OPm t1 Γ m1) (h2 : OPm t2 Γ m2) : EM K (tSl (rSlL K) te t1 t2) Γ (mb m0 fun xs => mb m1 fun lo => mb m2 fun hi => mp (cutL xs lo hi)) := fun s I F N σ e d Q q =>
  h s I F N σ e d _ (R.sat_imp (sat_mb.mp q) fun xs s1 q v I1 N1 a1 d1 e1 ⟨a, vs, r1, r2, r3⟩ => h1 s1 I1 F N1 σ e1 d1 _ (R.sat_imp (sat_mb.mp q) fun lo s2 q I2 N2 a2 d2 e2 => h2 s2 I2 F N2 σ e2 d2 _ (R.sat_imp (sat_mb.mp q) fun hi s3 q I3 N3 a3 d3 e3 => by
    refine ⟨a, vs, r1, SqL.of (ex_ov d3 _ _ (a3 _ _ (a2 _ _ r2))), fun p hp => ?_⟩
    obtain ⟨m1, m2, m3, m4⟩ := mk_list (K := K) (xs := cutL xs lo hi) d3 hp (rs_up (a2.trans a3) (rs_cut r3))
    rw [m4]
    exact q _ _ N3 (((a1.trans a2).trans a3).trans m1) m2 (e3.up m1) m3)))
/-! what is walked -/
def iAlt (w1 w2 : TI) : TI := fun σ H Rr => w1 σ H Rr ∨ w2 σ H Rr
theorem pi_alt {X : Cx} {tg e : Expr} {w1 w2 : TI} (h1 : PI X tg e w1) (h2 : PI X tg e w2) : PI X tg e (iAlt w1 w2) := ⟨fun pins s σ H R I h => h.elim (h1.run pins s σ H R I) (h2.run pins s σ H R I)⟩
theorem im_sq {x : Sq α} (h : ∀ s, EP te (Γ s) (pv K x)) : IM K (iAlt (iList K te) (iTup K te)) Γ (mp x.l) := fun s I F N σ e d Rr q => by
  obtain ⟨t, l⟩ := x
  cases t with
  | true => exact .inr (im_tup (xs := Tu.mk l) h s I F N σ e d Rr q)
  | false => exact .inl (im_list (xs := l) h s I F N σ e d Rr q)
/-- .. of which it is known beforehand whether it is a tuple -/
theorem im_sqM {t : Bool} {m : Mn S (Sq α)} (ht : ∀ s (Q : Sq α → S → Prop), (m s).sat Q → (m s).sat fun x s' => x.t = t ∧ Q x s') (h : EM K te Γ m) : IM K (iAlt (iList K te) (iTup K te)) Γ (mb m fun x => mp x.l) := fun s I F N σ e d Rr q => by
  have hq := ht s _ (sat_mb.mp q)
  cases t with
  | true =>
    refine .inr (h s I F N σ e d _ (R.sat_imp hq fun x s1 ⟨g, q⟩ v I1 N1 a1 d1 e1 r1 => ?_))
    obtain ⟨t, l⟩ := x
    cases g
    obtain ⟨a, vs, h1, h2, h3⟩ := (show Rp.r K (Tu.mk l) I1 v from r1)
    exact ⟨a, h1, ⟨vs, sqt_ov d1 h2⟩, q _ I1 N1 a1 d1 e1 (it_tup h2 h3)⟩
  | false =>
    refine .inl (h s I F N σ e d _ (R.sat_imp hq fun x s1 ⟨g, q⟩ v I1 N1 a1 d1 e1 r1 => ?_))
    obtain ⟨t, l⟩ := x
    cases g
    obtain ⟨a, vs, h1, h2, h3⟩ := (show Rp.r K l I1 v from r1)
    exact ⟨a, h1, ⟨vs, SqL.of (ex_ov d1 _ _ h2)⟩, q _ I1 N1 a1 d1 e1 (it_list (SqL.of h2) h3)⟩
/-- backwards -/
theorem it_rev {a : Addr} {xs : List α} {vs : List V} {I : Hp} (h : SqL K I a vs) (r : Rs K xs I vs) : ItOk K (Itv K a vs.length) I xs.reverse := fun I1 N1 a1 d1 => by
  have h1 : SqL K (ov N1 I1) a vs := sql_up (a1.trans (ex_ov d1)) h
  refine ⟨fun i x hx => ?_, by show vs.length ≤ xs.reverse.length; rw [List.length_reverse, r.length]; exact Nat.le_refl _⟩
  have hi : i < xs.length := by have := (List.getElem?_eq_some_iff.mp hx).1; simpa using this
  rw [List.getElem?_reverse hi] at hx
  obtain ⟨v, e1, e2⟩ := r.get hx
  rw [r.length] at e1 hi
  refine ⟨⟨hi, vs, v, h1, e1⟩, fun u H' ⟨y1, y2⟩ => ?_⟩
  have e3 := y2 vs h1
  rw [e1] at e3
  cases e3
  exact ⟨I1, y1, Ex.refl I1, d1, Rp.up a1 e2⟩
theorem it_revT {a : Addr} {xs : List α} {vs : List V} {I : Hp} (h : SqT K I a vs) (r : Rs K xs I vs) : ItOk K (RT.ItvT K a vs.length) I xs.reverse := fun I1 N1 a1 d1 => by
  have h1 : SqT K (ov N1 I1) a vs := sqt_up (a1.trans (ex_ov d1)) h
  refine ⟨fun i x hx => ?_, by show vs.length ≤ xs.reverse.length; rw [List.length_reverse, r.length]; exact Nat.le_refl _⟩
  have hi : i < xs.length := by have := (List.getElem?_eq_some_iff.mp hx).1; simpa using this
  rw [List.getElem?_reverse hi] at hx
  obtain ⟨v, e1, e2⟩ := r.get hx
  rw [r.length] at e1 hi
  refine ⟨⟨hi, vs, v, h1, e1⟩, fun u H' ⟨y1, y2⟩ => ?_⟩
  have e3 := y2 vs h1
  rw [e1] at e3
  cases e3
  exact ⟨I1, y1, Ex.refl I1, d1, Rp.up a1 e2⟩
theorem im_rev {m : Mn S (Sq α)} (h : EM K te Γ m) : IM K (RT.iRevA K te) Γ (mb m fun x => mp x.l.reverse) := fun s I F N σ e d Rr q =>
  h s I F N σ e d _ (R.sat_imp (sat_mb.mp q) fun xs s1 q v I1 N1 a1 d1 e1 r1 => by
    obtain ⟨a, vs, h1, h2, h3⟩ := sq_ref r1
    refine ⟨a, vs, h1, ?_⟩
    rcases h2 with ⟨_, h2⟩ | ⟨_, h2⟩
    · exact .inl ⟨SqL.of (ex_ov d1 _ _ h2), q _ I1 N1 a1 d1 e1 (it_rev (SqL.of h2) h3)⟩
    · exact .inr ⟨sqt_ov d1 h2, q _ I1 N1 a1 d1 e1 (it_revT h2 h3)⟩)
theorem rs_zip {xs : List α} {ys : List β} {I : Hp} {us vs : List V} (r1 : Rs K xs I us) (r2 : Rs K ys I vs) {i : Nat} {x : α} {y : β} (h : (xs.zip ys)[i]? = some (x, y)) : xs[i]? = some x ∧ ys[i]? = some y := by
  rw [List.getElem?_zip_eq_some] at h
  exact h
/-- two lists side by side -/
theorem it_zip {a b : Addr} {xs : List α} {ys : List β} {us vs : List V} {I : Hp} (h : SqL K I a us) (g : SqL K I b vs) (r : Rs K xs I us) (r' : Rs K ys I vs) : ItOk K (Itz K a b) I (xs.zip ys) := fun I1 N1 a1 d1 => by
  have h1 : SqL K (ov N1 I1) a us := sql_up (a1.trans (ex_ov d1)) h
  have g1 : SqL K (ov N1 I1) b vs := sql_up (a1.trans (ex_ov d1)) g
  refine ⟨fun i z hz => ?_, ⟨us, vs, h1, g1, by rw [List.length_zip, r.length, r'.length]; omega⟩⟩
  obtain ⟨x, y⟩ := z
  obtain ⟨hx, hy⟩ := rs_zip r r' hz
  obtain ⟨u, e1, e2⟩ := r.get hx
  obtain ⟨w, f1, f2⟩ := r'.get hy
  refine ⟨⟨us, vs, u, w, h1, g1, e1, f1⟩, fun z H' ⟨T, u', w', z1, z2, z3, z4, z5⟩ => ?_⟩
  have e3 := z4 us h1
  rw [e1] at e3
  cases e3
  have f3 := z5 vs g1
  rw [f1] at f3
  cases f3
  obtain ⟨m1, m2, m3, m4⟩ := mk_tup (K := K) (vs := [u, w]) d1 z2
  exact ⟨_, by rw [z3, m4], m1, m2, T, u, w, z1, m3, Rp.up (a1.trans m1) e2, Rp.up (a1.trans m1) f2⟩
theorem im_zip {m : Mn S ζ} {f : ζ → List α} {g : ζ → List β} (h : AM tl Γ m fun z => [pv K (f z), pv K (g z)]) : IM K (iZip K tl) Γ (mb m fun z => mp ((f z).zip (g z))) := fun s I F N σ e d Rr q =>
  h s I F N σ e d _ (R.sat_imp (sat_mb.mp q) fun z s1 q vs I1 N1 a1 d1 e1 r1 => by
    obtain ⟨u, us, rfl, ⟨a, xs, x1, x2, x3⟩, r1⟩ := all2_c r1
    obtain ⟨w, ws, rfl, ⟨b, ys, y1, y2, y3⟩, r1⟩ := all2_c r1
    cases all2_n r1
    exact ⟨a, b, xs, ys, by rw [x1, y1], SqL.of (ex_ov d1 _ _ x2), SqL.of (ex_ov d1 _ _ y2), q _ I1 N1 a1 d1 e1 (it_zip (SqL.of x2) (SqL.of y2) x3 y3)⟩)
theorem eo_lc {wi : TI} {g : TG} {tt : TT} {te : TE} {vs : List Nat} {Γ : S → List Sl} {mx : Mn S (List α)} {c : α → Mn S Bool} {f : α → Mn S β} {Γx : α → S → List Sl} {js : List Nat} (hi : IM K wi Γ mx) (hv : ∀ s, NoAt (Γ s) vs)
    (hg : ∀ x s, GT K g (Γ s) x (Γx x s) js) (hj : js.all (fun j => vs.contains j) = true) (hc : ∀ x, TM tt (Γx x) (c x)) (hf : ∀ x, EM K te (Γx x) (f x)) (wb : ∀ x s, Wk (Γx x s) (Γ s)) : EO (tLc wi g tt te vs) Γ (mb mx fun xs => cmP xs c f) (rOw (ol K)) := fun s I F N σ e d Q q =>
  hi s I F N σ e d _ (R.sat_imp (sat_mb.mp q) fun xs s1 q J I1 N1 a1 d1 e1 jt => by
    obtain ⟨hlen, q⟩ := sat_mc.mp (sat_mb.mp q)
    have hlen := of_decide_eq_true hlen
    intro D hD
    obtain ⟨hD1, hD2⟩ := ov_none hD
    have hDF : F D = none := e1.sub hD1
    have hjs : ∀ j ∈ js, j ∈ vs := fun j hj' => by simpa using List.all_eq_true.mp hj j hj'
    refine ⟨fun i m H' => m = xs.length - i ∧ i ≤ xs.length ∧ ∃ (s' : S) (I' N' : Hp) (acc : List β) (us : List V), H' = ov (ov (sing D (.lst us)) N') I' ∧ Ex I1 I' ∧ Dis N' I' ∧ I' D = none ∧ N' D = none ∧ EnvG s' I' F N' σ (Γ s') ∧ Rs K acc I' us ∧ acc.length ≤ i ∧
      (cmGo (xs.drop i) acc c f s').sat (fun x s' => ∀ v H' I' N', Ex I I' → EnvG s' I' F N' σ (Γ s') → rOw (ol K) x v I' N' H' → Q v H'),
      ⟨xs.length, rfl, Nat.zero_le _, s1, I1, N1, [], [], by rw [upd_sing, ov_assoc], Ex.refl I1, d1, hD2, hD1, e1, .nil, Nat.le_refl _, q⟩, ?_⟩
    rintro i m H' ⟨rfl, hle, s', I', N', acc, us, rfl, y1, y2, y3, y4, y5, y6, y7, y8⟩
    have dG : Dis (sing D (.lst us)) N' := dis_sing y4
    have dGI : Dis (ov (sing D (.lst us)) N') I' := dis_ov (dis_sing y3) y2
    by_cases hlt : i < xs.length
    · have hx : xs[i]? = some xs[i] := List.getElem?_eq_getElem hlt
      have j1 := (jt I' _ y1 dGI).1 i _ hx
      refine .inr ⟨j1.1, fun H' => ∃ (s' : S) (I' N' : Hp) (acc : List β) (us : List V), H' = ov (ov (sing D (.lst us)) N') I' ∧ Ex I1 I' ∧ Dis N' I' ∧ I' D = none ∧ N' D = none ∧ EnvG s' I' F N' σ (Γ s') ∧ Rs K acc I' us ∧ acc.length ≤ i + 1 ∧
        (cmGo (xs.drop (i + 1)) acc c f s').sat (fun x s' => ∀ v H' I' N', Ex I I' → EnvG s' I' F N' σ (Γ s') → rOw (ol K) x v I' N' H' → Q v H'), fun H' hN => ⟨xs.length - (i + 1), by omega, rfl, hlt, hN⟩, fun v H2 hy => ?_⟩
      obtain ⟨I3, rfl, z1, z2, z3⟩ := j1.2 v H2 hy
      have ew : EnvG s' I3 (ov (sing D (.lst us)) F) (ov (sing D (.lst us)) N') (wipe σ vs) (Γ s') := by
        have e3 := (y5.up z1).frame dG
        refine e3.rewipe (hv s') ?_
        rw [wipe_wipe]
      refine (hg xs[i] s').g s' I3 _ _ _ v ew z2 z3 _ fun σ3 e3 w3 => ?_
      have w4 : wipe σ3 vs = wipe σ vs := by rw [w3 vs hjs, wipe_wipe]
      refine ⟨w4, ?_⟩
      rw [List.drop_eq_getElem_cons hlt] at y8
      refine hc xs[i] s' I3 _ _ σ3 e3 z2 _ (R.sat_imp (sat_mb.mp y8) fun k s2 q2 I4 N4 a4 d4 e4 => ?_)
      have back : ∀ {I5 M5 : Hp} {s5 : S}, EnvG s5 I5 (ov (sing D (.lst us)) F) M5 σ3 (Γx xs[i] s5) → Dis M5 I5 → ∃ I6 N6, Ex I5 I6 ∧ ov M5 I5 = ov (ov (sing D (.lst us)) N6) I6 ∧ Dis N6 I6 ∧ I6 D = none ∧ N6 D = none ∧ EnvG s5 I6 F N6 σ (Γ s5) := fun {I5 M5 s5} e5 d5 => by
        obtain ⟨I6, M6, x1, x2, x3, x4⟩ := e5.wk (wb xs[i] s5) d5
        obtain ⟨N6, h1, h2, h3⟩ := x4.unframe (dis_sing hDF)
        subst h1
        obtain ⟨x5, x6⟩ := dis_ov_l x2
        exact ⟨I6, N6, x1, x3.symm, x6, x5.some_l sing_same, h2.some_l sing_same, h3.rewipe (hv s5) w4⟩
      cases k with
      | true =>
        show te σ3 (ov N4 I4) _
        refine hf xs[i] s2 I4 _ N4 σ3 e4 d4 _ (R.sat_imp (sat_mb.mp q2) fun y s3 q3 u I5 N5 a5 d5 e5 r5 => ?_)
        obtain ⟨I6, N6, b1, b2, b3, b4, b5, b6⟩ := back e5 d5
        refine ⟨us, ?_, ?_, s3, I6, N6, acc ++ [y], us ++ [u], ?_, ((((y1.trans z1).trans a4).trans a5).trans b1), b3, b4, b5, b6, (rs_up (((z1.trans a4).trans a5).trans b1) y6).append (.cons (Rp.up b1 r5) .nil), by rw [List.length_append]; simpa using y7, q3⟩
        · rw [b2]; exact ov_l (ov_l sing_same)
        · rw [← y6.length]
          exact Nat.lt_of_le_of_lt (Nat.le_trans y7 (Nat.le_trans (Nat.le_of_lt hlt) hlen)) (by decide)
        · rw [b2, upd_own]
      | false =>
        obtain ⟨I6, N6, b1, b2, b3, b4, b5, b6⟩ := back e4 d4
        exact ⟨s2, I6, N6, acc, us, b2, ((y1.trans z1).trans a4).trans b1, b3, b4, b5, b6, rs_up ((z1.trans a4).trans b1) y6, by omega, q2⟩
    · have hi : i = xs.length := by omega
      subst hi
      rw [List.drop_length] at y8
      refine .inl ⟨(jt I' _ y1 dGI).2, ?_⟩
      exact y8 _ _ I' N' (a1.trans y1) y5 ⟨D, _, rfl, dG, dGI, rfl, us, rfl, y6⟩)
/-! an owned list, or None -/
def rOwO {ρ : Type} (P : ρ → OP) : RetT (Option ρ) := fun x v I N H => match x with
  | none => Dis N I ∧ H = ov N I ∧ v = V.non
  | some y => rOw P y v I N H
theorem em_ownO {m : Mn S (Option (List α))} (h : EO te Γ m (rOwO (ol K))) : EM K te Γ m := fun s I F N σ e d Q q => h s I F N σ e d Q (R.sat_imp q fun x s' q v H' I' N' a1 e1 r1 => by
  cases x with
  | none =>
    obtain ⟨h1, h2, h3⟩ := r1
    rw [h2]
    exact q v I' N' a1 h1 e1 h3
  | some y =>
    obtain ⟨a, Ma, h1, h2, h3, h4, h5⟩ := r1
    obtain ⟨y1, y2⟩ := dis_ov_l h3
    have e9 : H' = ov N' (ov Ma I') := by rw [h4, ov_comm h2, ov_assoc]
    rw [e9, h1]
    exact q (.ref a) _ N' (a1.trans (ex_ov y1)) (dis_ov_r h2.symm y2) (e1.up (ex_ov y1)) ⟨fr_ol _ _ _ y1 h5, fun z => by cases z⟩)
theorem eo_some {P : ρ → OP} {m : Mn S ρ} (h : EO te Γ m (rOw P)) : EO te Γ (mb m fun x => mp (some x)) (rOwO P) := fun s I F N σ e d Q q => h s I F N σ e d Q (R.sat_imp (sat_mb.mp q) fun x s1 q v H' I' N' a1 e1 r1 => q v H' I' N' a1 e1 r1)
theorem eo_none {P : ρ → OP} (h : ∀ s, EP te (Γ s) (pv K ())) : EO te Γ (mp (none : Option ρ)) (rOwO P) := fun s I F N σ e d Q q => h s I F N σ e d Q fun v I' a1 d1 r1 => q v _ I' N a1 (e.up a1) ⟨d1, rfl, r1⟩
theorem rt_retO {P : ρ → OP} {m : Mn S (Option ρ)} {Γr : S → List Sl} (h : EO te Γ m (rOwO P)) (w : ∀ s, Wk (Γ s) (Γr s)) : RT (rOwO P) (tRet te) Γ m Γr := fun s I F N σ e d D q =>
  h s I F N σ e d _ (R.sat_imp q fun x s1 q v H' I' N' a1 e1 r1 => by
    cases x with
    | none =>
      obtain ⟨h1, h2, h3⟩ := r1
      obtain ⟨I2, N2, x1, x2, x3, x4⟩ := e1.wk (w s1) h1
      exact q v H' I2 N2 σ (a1.trans x1) x4 ⟨x2, by rw [h2, x3], h3⟩
    | some y =>
      obtain ⟨a, Ma, h1, h2, h3, h4, h5⟩ := r1
      obtain ⟨y1, y2⟩ := dis_ov_l h3
      obtain ⟨I2, N2, x1, x2, x3, x4⟩ := e1.wk (w s1) y2
      have z := dis_ov_r h2 y1
      rw [← x3] at z
      obtain ⟨z1, z2⟩ := dis_r_ov z
      exact q v H' I2 N2 σ (a1.trans x1) x4 ⟨a, Ma, h1, z1, dis_ov z2 x2, by rw [h4, ← ov_assoc, ← ov_assoc, x3], (P y).up x1 h5⟩)
/-- by cases of a result that is an owned list or None -/
def moc {S ρ τ : Type} (m : Mn S (Option ρ)) (m0 : Mn S τ) (m1 : ρ → Mn S τ) : Mn S τ := mb m fun o => match o with
  | none => m0
  | some x => m1 x
theorem rt_splitO {Ret : RetT τ} {t2 : TS} {P : ρ → OP} {m : Mn S (Option ρ)} {m0 : Mn S τ} {m1 : ρ → Mn S τ} {Γ0 Γr : S → List Sl} {Γs : ρ → S → List Sl} {i : Nat} (h : EO te Γ m (rOwO P)) (hn : ∀ s, NotOw (Γ s) i) (hl : ∀ s, i < (Γ s).length) (h0 : ∀ s, (Γ s).set i (.im (pv K ())) = Γ0 s) (h1 : ∀ x s, (Γ s).set i (.ow (P x)) = Γs x s)
    (k0 : RT Ret t2 Γ0 m0 Γr) (k1 : ∀ x, RT Ret t2 (Γs x) (m1 x) Γr) : RT Ret (tSeq (tAsg te (gName i)) t2) Γ (moc m m0 m1) Γr := fun s I F N σ e d D q =>
  h s I F N σ e d _ (R.sat_imp (sat_mb.mp q) fun x s1 q v H' I' N' a1 e1 r1 => by
    cases x with
    | none =>
      obtain ⟨y1, y2, y3⟩ := r1
      subst y2
      refine k0 s1 I' F N' _ (by rw [← h0]; exact e1.set (p := pv K ()) y3 (hn s1)) y1 D (R.sat_imp q fun x s2 q v H I2 N2 σ2 a2 => q v H I2 N2 σ2 (a1.trans a2))
    | some y =>
      obtain ⟨a, Ma, y1, y2, y3, y4, y5⟩ := r1
      subst y1 y4
      refine k1 y s1 I' F _ _ (by rw [← h1]; exact e1.take y5 (hn s1) (hl s1) y2) y3 D (R.sat_imp q fun x s2 q v H I2 N2 σ2 a2 => q v H I2 N2 σ2 (a1.trans a2)))
end
end Mir

/-! Mir20: a store of objects that change: lists and dicts at chosen addresses, their items values of any kind -/
namespace Mir
open PySem L2
/-- values of any kind; ref: an object of the store -/
inductive Py where
  | non
  | bl (b : Bool)
  | int (i : Int)
  | str (s : Str)
  | tup (xs : List Py)
  | lst (xs : List Py)
  | ref (a : Addr)
  | ins (ns : List Str) (xs : List Py)
mutual
def Py.rel (K : PySem.W.Frag) (H : Hp) : Py → V → Prop
  | .non, v => v = V.non
  | .bl b, v => v = V.bl b
  | .int i, v => v = V.int i
  | .str s, v => v = V.str s
  | .tup xs, v => ∃ a vs, v = .ref a ∧ SqT K H a vs ∧ Py.rels K H xs vs
  | .lst xs, v => ∃ a vs, v = .ref a ∧ H a = some (.lst vs) ∧ Py.rels K H xs vs
  | .ref a, v => v = .ref a
  | .ins ns xs, v => ∃ a C dx vs, v = .ref a ∧ H a = some (.ins C dx (ns.zip vs)) ∧ ClsN K C ns ∧ Py.rels K H xs vs
def Py.rels (K : PySem.W.Frag) (H : Hp) : List Py → List V → Prop
  | [], vs => vs = []
  | x :: xs, vs => ∃ u us, vs = u :: us ∧ Py.rel K H x u ∧ Py.rels K H xs us
end
mutual
theorem Py.up {K : PySem.W.Frag} {H H' : Hp} (e : Ex H H') : ∀ {x : Py} {v : V}, Py.rel K H x v → Py.rel K H' x v
  | .non, v, h => h
  | .bl b, v, h => h
  | .int i, v, h => h
  | .str s, v, h => h
  | .tup xs, v, ⟨a, vs, h1, h2, h3⟩ => ⟨a, vs, h1, sqt_up e h2, Py.ups e h3⟩
  | .lst xs, v, ⟨a, vs, h1, h2, h3⟩ => ⟨a, vs, h1, e _ _ h2, Py.ups e h3⟩
  | .ref a, v, h => h
  | .ins ns xs, v, ⟨a, C, dx, vs, h1, h2, h3, h4⟩ => ⟨a, C, dx, vs, h1, e _ _ h2, h3, Py.ups e h4⟩
theorem Py.ups {K : PySem.W.Frag} {H H' : Hp} (e : Ex H H') : ∀ {xs : List Py} {vs : List V}, Py.rels K H xs vs → Py.rels K H' xs vs
  | [], vs, h => h
  | x :: xs, vs, ⟨u, us, h1, h2, h3⟩ => ⟨u, us, h1, Py.up e h2, Py.ups e h3⟩
end
instance rpPy : Rp Py := ⟨fun K x H v => Py.rel K H x v, fun e h => Py.up e h⟩
theorem rels_iff {K : PySem.W.Frag} {H : Hp} : ∀ {xs : List Py} {vs : List V}, Py.rels K H xs vs ↔ Rs K xs H vs
  | [], vs => ⟨fun h => by rw [show vs = [] from h]; exact .nil, fun h => by cases h; rfl⟩
  | x :: xs, vs => ⟨fun ⟨u, us, h1, h2, h3⟩ => by rw [h1]; exact .cons h2 (rels_iff.mp h3), fun h => by
    cases h with
    | cons h1 h2 => exact ⟨_, _, rfl, h1, rels_iff.mpr h2⟩⟩
/-- a name for an object of the store -/
structure Ref where
  a : Addr
  deriving DecidableEq
instance rpRef : Rp Ref := ⟨fun _ x _ v => v = V.ref x.a, fun _ h => h⟩
instance scRef : Sc Ref := ⟨fun x => V.ref x.a, Iff.rfl⟩
/-- types that are values of any kind -/
class PyT (α : Type) [Rp α] where
  enc : α → Py
  dec : Py → Option α
  rel : ∀ {K : PySem.W.Frag} {x : α} {H : Hp} {v : V}, Rp.r K x H v → Py.rel K H (enc x) v
  der : ∀ {K : PySem.W.Frag} {p : Py} {x : α} {H : Hp} {v : V}, dec p = some x → Py.rel K H p v → Rp.r K x H v
  ed : ∀ x, dec (enc x) = some x
instance ptInt : PyT Int := ⟨.int, fun p => match p with | .int i => some i | _ => none, fun h => h, fun {K p x H v} e h => by
  cases p <;> cases e
  exact h, fun _ => rfl⟩
instance ptBool : PyT Bool := ⟨.bl, fun p => match p with | .bl i => some i | _ => none, fun h => h, fun {K p x H v} e h => by
  cases p <;> cases e
  exact h, fun _ => rfl⟩
instance ptUnit : PyT Unit := ⟨fun _ => .non, fun p => match p with | .non => some () | _ => none, fun h => h, fun {K p x H v} e h => by
  cases p <;> cases e
  exact h, fun _ => rfl⟩
instance ptStr : PyT Str := ⟨.str, fun p => match p with | .str i => some i | _ => none, fun h => h, fun {K p x H v} e h => by
  cases p <;> cases e
  exact h, fun _ => rfl⟩
instance ptRef : PyT Ref := ⟨fun r => .ref r.a, fun p => match p with | .ref i => some ⟨i⟩ | _ => none, fun h => h, fun {K p x H v} e h => by
  cases p <;> cases e
  exact h, fun _ => rfl⟩
instance ptPy : PyT Py := ⟨id, some, fun h => h, fun {K p x H v} e h => by cases e; exact h, fun _ => rfl⟩
section
variable {α β γ δ : Type} [Rp α] [Rp β] [Rp γ] [Rp δ] [PyT α] [PyT β] [PyT γ] [PyT δ]
def decs (α : Type) [Rp α] [PyT α] : List Py → Option (List α)
  | [] => some []
  | p :: ps => match PyT.dec (α := α) p, decs α ps with
    | some x, some xs => some (x :: xs)
    | _, _ => none
theorem decs_rel {K : PySem.W.Frag} {H : Hp} : ∀ {ps : List Py} {xs : List α} {vs : List V}, decs α ps = some xs → Py.rels K H ps vs → Rs K xs H vs
  | [], xs, vs, e, h => by
    cases e
    rw [show vs = [] from h]
    exact .nil
  | p :: ps, xs, vs, e, ⟨u, us, h1, h2, h3⟩ => by
    unfold decs at e
    cases e1 : PyT.dec (α := α) p with
    | none => rw [e1] at e; cases e
    | some x =>
      cases e2 : decs α ps with
      | none => rw [e1, e2] at e; cases e
      | some ys =>
        rw [e1, e2] at e
        cases e
        rw [h1]
        exact .cons (PyT.der e1 h2) (decs_rel e2 h3)
theorem decs_enc : ∀ xs : List α, decs α (xs.map PyT.enc) = some xs
  | [] => rfl
  | x :: xs => by
    show (match PyT.dec (α := α) (PyT.enc x), decs α (xs.map PyT.enc) with
      | some x, some xs => some (x :: xs)
      | _, _ => none) = some (x :: xs)
    rw [PyT.ed, decs_enc xs]
theorem rels_enc {K : PySem.W.Frag} {H : Hp} : ∀ {xs : List α} {vs : List V}, Rs K xs H vs → Py.rels K H (xs.map PyT.enc) vs
  | _, _, .nil => rfl
  | _, _, .cons h t => ⟨_, _, rfl, PyT.rel h, rels_enc t⟩
instance ptList : PyT (List α) where
  enc xs := .lst (xs.map PyT.enc)
  dec p := match p with
    | .lst ps => decs α ps
    | _ => none
  rel := fun ⟨a, vs, h1, h2, h3⟩ => ⟨a, vs, h1, h2, rels_enc h3⟩
  der := fun {K p x H v} e h => by
    cases p <;> try (cases e; done)
    obtain ⟨a, vs, h1, h2, h3⟩ := h
    exact ⟨a, vs, h1, h2, decs_rel e h3⟩
  ed := fun x => decs_enc x
instance ptTu : PyT (Tu α) where
  enc xs := .tup (xs.l.map PyT.enc)
  dec p := match p with
    | .tup ps => (decs α ps).map Tu.mk
    | _ => none
  rel := fun ⟨a, vs, h1, h2, h3⟩ => ⟨a, vs, h1, h2, rels_enc h3⟩
  der := fun {K p x H v} e h => by
    cases p <;> try (cases e; done)
    obtain ⟨a, vs, h1, h2, h3⟩ := h
    obtain ⟨xs, e1, rfl⟩ := Option.map_eq_some_iff.mp e
    exact ⟨a, vs, h1, h2, decs_rel e1 h3⟩
  ed := fun x => by
    show (decs α (x.l.map PyT.enc)).map Tu.mk = some x
    rw [decs_enc]
    rfl
def dec2 (α β : Type) [Rp α] [Rp β] [PyT α] [PyT β] (p : Py) : Option (α × β) := match p with
  | .tup [a, b] => (PyT.dec (α := α) a).bind fun x => (PyT.dec (α := β) b).map fun y => (x, y)
  | _ => none
theorem rels2 {K : PySem.W.Frag} {H : Hp} {a b : Py} {vs : List V} (h : Py.rels K H [a, b] vs) : ∃ u w, vs = [u, w] ∧ Py.rel K H a u ∧ Py.rel K H b w := by
  obtain ⟨u, us, h3, h4, u2, us2, h5, h6, h7⟩ := h
  have h7' : us2 = [] := h7
  subst h3 h5 h7'
  exact ⟨u, u2, rfl, h4, h6⟩
instance ptProd : PyT (α × β) where
  enc x := .tup [PyT.enc x.1, PyT.enc x.2]
  dec := dec2 α β
  rel := fun ⟨a, v1, v2, h1, h2, h3, h4⟩ => ⟨a, _, h1, h2, _, _, rfl, PyT.rel h3, _, _, rfl, PyT.rel h4, rfl⟩
  der := fun {K p x H v} e h => by
    unfold dec2 at e
    split at e
    · obtain ⟨x1, e1, e2⟩ := Option.bind_eq_some_iff.mp e
      obtain ⟨x2, e3, rfl⟩ := Option.map_eq_some_iff.mp e2
      obtain ⟨q, vs, h1, h2, h3⟩ := h
      obtain ⟨u, w, rfl, h4, h5⟩ := rels2 h3
      exact ⟨q, _, _, h1, h2, PyT.der e1 h4, PyT.der e3 h5⟩
    · cases e
  ed := fun x => by
    show dec2 α β (Py.tup [PyT.enc x.1, PyT.enc x.2]) = some x
    unfold dec2
    simp only [PyT.ed]
    rfl
instance ptSq : PyT (Sq α) where
  enc x := if x.t = true then PyT.enc (Tu.mk x.l) else PyT.enc x.l
  dec p := match p with
    | .tup ps => (decs α ps).map (Sq.mk true)
    | .lst ps => (decs α ps).map (Sq.mk false)
    | _ => none
  rel := fun {K x H v} h => by
    obtain ⟨t, l⟩ := x
    cases t with
    | true => exact PyT.rel (x := Tu.mk l) h
    | false => exact PyT.rel (x := l) h
  der := fun {K p x H v} e h => by
    cases p <;> try (cases e; done)
    · obtain ⟨a, vs, h1, h2, h3⟩ := h
      obtain ⟨xs, e1, rfl⟩ := Option.map_eq_some_iff.mp e
      exact (show Rp.r K (Tu.mk xs) H v from ⟨a, vs, h1, h2, decs_rel e1 h3⟩)
    · obtain ⟨a, vs, h1, h2, h3⟩ := h
      obtain ⟨xs, e1, rfl⟩ := Option.map_eq_some_iff.mp e
      exact (show Rp.r K xs H v from ⟨a, vs, h1, h2, decs_rel e1 h3⟩)
  ed := fun x => by
    obtain ⟨t, l⟩ := x
    cases t with
    | true =>
      show (decs α (l.map PyT.enc)).map (Sq.mk true) = some _
      rw [decs_enc]
      rfl
    | false =>
      show (decs α (l.map PyT.enc)).map (Sq.mk false) = some _
      rw [decs_enc]
      rfl
end

/-! ### the store -/
inductive Ob where
  | lst (xs : List Py)
  | dic (kvs : List (Key × Py))
def Ob.rel (K : PySem.W.Frag) (I : Hp) : Ob → HO → Prop
  | .lst xs, u => ∃ vs, u = .lst vs ∧ Py.rels K I xs vs
  | .dic kvs, u => ∃ vs, u = .dK vs ∧ All2 (fun (p : Key × Py) (q : Key × V) => q.1 = p.1 ∧ Py.rel K I p.2 q.2) kvs vs
theorem Ob.up {K : PySem.W.Frag} {I I' : Hp} (e : Ex I I') : ∀ {o : Ob} {u : HO}, Ob.rel K I o u → Ob.rel K I' o u
  | .lst _, _, ⟨vs, h1, h2⟩ => ⟨vs, h1, Py.ups e h2⟩
  | .dic _, _, ⟨vs, h1, h2⟩ => ⟨vs, h1, h2.imp fun _ _ q => ⟨q.1, Py.up e q.2⟩⟩
structure Sto (K : PySem.W.Frag) where
  f : Addr → Option Ob
def Sto.rel {K : PySem.W.Frag} (s : Sto K) (I G : Hp) : Prop := ∀ a, match s.f a with
  | none => G a = none
  | some o => ∃ u, G a = some u ∧ Ob.rel K I o u
theorem Sto.get {K : PySem.W.Frag} {s : Sto K} {I G : Hp} (h : s.rel I G) {a : Addr} {o : Ob} (e : s.f a = some o) : ∃ u, G a = some u ∧ Ob.rel K I o u := by
  have q := h a
  rw [e] at q
  exact q
theorem Sto.no {K : PySem.W.Frag} {s : Sto K} {I G : Hp} (h : s.rel I G) {a : Addr} (e : s.f a = none) : G a = none := by
  have q := h a
  rw [e] at q
  exact q
instance shSto {K : PySem.W.Frag} : SH (Sto K) := ⟨fun s I G => s.rel I G, fun {s I I' G} e h a => by
  have q := h a
  cases r : s.f a with
  | none => rw [r] at q; exact q
  | some o =>
    rw [r] at q
    obtain ⟨u, h1, h2⟩ := q
    exact ⟨u, h1, Ob.up e h2⟩⟩
def Sto.emp (K : PySem.W.Frag) : Sto K := ⟨fun _ => none⟩
def Sto.put {K : PySem.W.Frag} (s : Sto K) (a : Addr) (o : Ob) : Sto K := ⟨fun b => if b = a then some o else s.f b⟩
section
variable {K : PySem.W.Frag} {s : Sto K} {a b : Addr} {o : Ob}
theorem Sto.put_same : (s.put a o).f a = some o := if_pos rfl
theorem Sto.put_ne (h : b ≠ a) : (s.put a o).f b = s.f b := if_neg h
theorem Sto.rel_put {I G : Hp} {u : HO} (h : s.rel I G) (r : Ob.rel K I o u) : (s.put a o).rel I (upd G a u) := fun b => by
  by_cases e : b = a
  · subst e
    rw [Sto.put_same, upd_same]
    exact ⟨u, rfl, r⟩
  · rw [Sto.put_ne e, upd_ne e]
    exact h b
/-- the store's objects stand in the heap -/
theorem EnvG.sto {I F N : Hp} {σ : L2.St} {Γ : List Sl} (h : EnvG s I F N σ Γ) (e : s.f a = some o) : ∃ u, N a = some u ∧ Ob.rel K I o u := by
  obtain ⟨G, g1, g2, e0⟩ := h
  obtain ⟨u, h1, h2⟩ := Sto.get g1 e
  exact ⟨u, e0.subF (ov_l h1), h2⟩
/-- an object changes -/
theorem EnvG.sput {I F N : Hp} {σ : L2.St} {Γ : List Sl} (h : EnvG s I F N σ Γ) (d : Dis N I) (e : s.f a = some o) {o' : Ob} {u' : HO} (r : Ob.rel K I o' u') : ∃ N', upd (ov N I) a u' = ov N' I ∧ Dis N' I ∧ EnvG (s.put a o') I F N' σ Γ := by
  obtain ⟨G, g1, g2, e0⟩ := h
  obtain ⟨u, h1, h2⟩ := Sto.get g1 e
  obtain ⟨P, p1, p2, p3⟩ := e0.parts
  have hN : N a = some u := e0.subF (ov_l h1)
  have hI : I a = none := d.some_l hN
  have hP : P a = none := p2.some_r (ov_l h1)
  have hF : F a = none := g2.some_l h1
  have dF : Dis (upd G a u') F := (dis_upd g2.symm hF).symm
  have dP : Dis P (ov (upd G a u') F) := by
    obtain ⟨y1, y2⟩ := dis_r_ov p2
    exact dis_ov_r (dis_upd y1 hP) y2
  refine ⟨ov P (ov (upd G a u') F), ?_, ?_, upd G a u', Sto.rel_put g1 r, dF, p3 I _ (Ex.refl I) dP⟩
  · rw [p1]
    funext b
    by_cases eb : b = a
    · subst eb
      rw [upd_same, ov_l]
      rw [ov_r hP]
      exact ov_l upd_same
    · rw [upd_ne eb]
      unfold ov
      rw [upd_ne eb]
  · refine fun b => ?_
    by_cases eb : b = a
    · subst eb; exact .inr hI
    · rcases d b with q | q
      · left
        rw [p1] at q
        unfold ov at q ⊢
        rw [upd_ne eb]
        exact q
      · exact .inr q
/-- a new object -/
theorem EnvG.snew {I F N : Hp} {σ : L2.St} {Γ : List Sl} (h : EnvG s I F N σ Γ) (d : Dis N I) (ha : ov N I a = none) {u : HO} (r : Ob.rel K I o u) : s.f a = none ∧ upd (ov N I) a u = ov (ov (sing a u) N) I ∧ Dis (ov (sing a u) N) I ∧ EnvG (s.put a o) I F (ov (sing a u) N) σ Γ := by
  obtain ⟨x1, x2⟩ := ov_none ha
  obtain ⟨G, g1, g2, e0⟩ := h
  have hGF : ov G F a = none := e0.sub x1
  obtain ⟨y1, y2⟩ := ov_none hGF
  have hs : s.f a = none := by
    cases q : s.f a with
    | none => rfl
    | some o' =>
      obtain ⟨u', h1, _⟩ := Sto.get g1 q
      rw [y1] at h1
      cases h1
  obtain ⟨P, p1, p2, p3⟩ := e0.parts
  have hP : P a = none := by
    rw [p1] at x1
    exact (ov_none x1).1
  have dP : Dis P (ov (upd G a u) F) := by
    obtain ⟨z1, z2⟩ := dis_r_ov p2
    exact dis_ov_r (dis_upd z1 hP) z2
  have eN : ov (sing a u) N = ov P (ov (upd G a u) F) := by
    rw [p1]
    funext b
    by_cases eb : b = a
    · subst eb
      rw [ov_l sing_same, ov_r hP, ov_l upd_same]
    · rw [ov_r (sing_ne eb)]
      unfold ov
      rw [upd_ne eb]
  refine ⟨hs, by rw [upd_sing, ov_assoc], dis_ov (dis_sing x2) d, upd G a u, Sto.rel_put g1 r, (dis_upd g2.symm y2).symm, ?_⟩
  rw [eN]
  exact p3 I _ (Ex.refl I) dP
end
/-! what is done with it -/
section
variable {K : PySem.W.Frag} {α : Type}
def mnew (o : Ob) : Mn (Sto K) Ref := fun s => .all (fun a => (s.f a).isNone) fun a => .ok ⟨a⟩ (s.put a o)
def mld (r : Ref) : Mn (Sto K) Ob := fun s => match s.f r.a with
  | some o => .ok o s
  | none => .bad
def mput (r : Ref) (o : Ob) : Mn (Sto K) Unit := fun s => match s.f r.a with
  | some _ => .ok () (s.put r.a o)
  | none => .bad
/-- a list's items -/
def mldL (r : Ref) : Mn (Sto K) (List Py) := fun s => match s.f r.a with
  | some (.lst xs) => .ok xs s
  | _ => .bad
/-- .. of one type -/
def mldT (α : Type) [Rp α] [PyT α] (r : Ref) : Mn (Sto K) (List α) := mb (mldL r) fun xs => mo (decs α xs)
def mldD (r : Ref) : Mn (Sto K) (List (Key × Py)) := fun s => match s.f r.a with
  | some (.dic xs) => .ok xs s
  | _ => .bad
variable {s : Sto K} {r : Ref} {o : Ob}
theorem sat_mnew {Q : Ref → Sto K → Prop} : (mnew o s).sat Q ↔ ∀ a, s.f a = none → Q ⟨a⟩ (s.put a o) := by
  exact ⟨fun h a e => h a (show (s.f a).isNone = true by rw [e]; rfl), fun h a e => h a (by simpa using (show (s.f a).isNone = true from e))⟩
theorem sat_mldL {Q : List Py → Sto K → Prop} : (mldL r s).sat Q ↔ ∃ xs, s.f r.a = some (.lst xs) ∧ Q xs s := by
  unfold mldL
  constructor
  · intro h
    split at h
    · rename_i xs e; exact ⟨xs, e, h⟩
    · exact h.elim
  · rintro ⟨xs, e, q⟩
    rw [e]
    exact q
theorem sat_mldD {Q : List (Key × Py) → Sto K → Prop} : (mldD r s).sat Q ↔ ∃ xs, s.f r.a = some (.dic xs) ∧ Q xs s := by
  unfold mldD
  constructor
  · intro h
    split at h
    · rename_i xs e; exact ⟨xs, e, h⟩
    · exact h.elim
  · rintro ⟨xs, e, q⟩
    rw [e]
    exact q
theorem sat_mput {Q : Unit → Sto K → Prop} : (mput r o s).sat Q ↔ ∃ o0, s.f r.a = some o0 ∧ Q () (s.put r.a o) := by
  unfold mput
  cases e : s.f r.a with
  | none => exact ⟨fun h => h.elim, fun ⟨o0, h, _⟩ => by cases h⟩
  | some o0 => exact ⟨fun h => ⟨o0, rfl, h⟩, fun ⟨_, _, h⟩ => h⟩
theorem sat_mldT [Rp α] [PyT α] {Q : List α → Sto K → Prop} : (mldT α r s).sat Q ↔ ∃ ps xs, s.f r.a = some (.lst ps) ∧ decs α ps = some xs ∧ Q xs s := by
  unfold mldT
  rw [sat_mb, sat_mldL]
  exact ⟨fun ⟨ps, h, q⟩ => let ⟨xs, e, q⟩ := sat_mo.mp q; ⟨ps, xs, h, e, q⟩, fun ⟨ps, xs, h, e, q⟩ => ⟨ps, h, sat_mo.mpr ⟨xs, e, q⟩⟩⟩
end
end Mir

/-! Mir21: the store's objects in expressions and statements -/
namespace Mir
open PySem L2
section
variable {K : PySem.W.Frag} {α β ζ ρ τ : Type} [Rp α] [PyT α] [Rp β] [PyT β] {Γ : Sto K → List Sl} {te ta tb : TE} {tl : TA} {r : Ref}
theorem ecast {S : Type} [SH S] {t : S} {I F N : Hp} {σ : L2.St} {A B : List Sl} (h : A = B) (x : EnvG t I F N σ A) : EnvG t I F N σ B := h ▸ x
theorem rels_len {H : Hp} {xs : List Py} {vs : List V} (h : Py.rels K H xs vs) : xs.length = vs.length := (rels_iff.mp h).length
theorem rels_at {H : Hp} {xs : List Py} {vs : List V} {i : Int} {p : Py} (h : Py.rels K H xs vs) (e : atI xs i = some p) : ∃ v, atI vs i = some v ∧ Py.rel K H p v := rs_at (rels_iff.mp h) e
/-- the list at a name -/
theorem sto_lst {s : Sto K} {I F N : Hp} {σ : L2.St} {Γs : List Sl} {xs : List Py} (e : EnvG s I F N σ Γs) (h : s.f r.a = some (.lst xs)) : ∃ vs, N r.a = some (.lst vs) ∧ Py.rels K I xs vs := by
  obtain ⟨u, h1, vs, h2, h3⟩ := e.sto h
  exact ⟨vs, by rw [h1, h2], h3⟩
/-- r[i] -/
theorem em_ixR {m2 : Mn (Sto K) Int} (ha : ∀ s, EP ta (Γ s) (pv K r)) (hb : EM K tb Γ m2) : EM K (tOp (rIxL K) ta tb) Γ (mb m2 fun i => mb (mldL r) fun xs => mo ((atI xs i).bind (PyT.dec (α := α)))) := fun s I F N σ e d Q q =>
  ha s I F N σ e d _ fun v I1 a1 d1 r1 => hb s I1 F N σ (e.up a1) d1 _ (R.sat_imp (sat_mb.mp q) fun i s2 q w I2 N2 a2 d2 e2 r2 => by
    obtain ⟨xs, h1, q⟩ := sat_mldL.mp (sat_mb.mp q)
    obtain ⟨x, h2, q⟩ := sat_mo.mp q
    obtain ⟨p, h3, h4⟩ := Option.bind_eq_some_iff.mp h2
    obtain ⟨vs, g1, g2⟩ := sto_lst e2 h1
    obtain ⟨u, g3, g4⟩ := rels_at g2 h3
    exact ⟨r.a, vs, i, u, r1, r2, SqL.of (ov_l g1), g3, q u I2 N2 (a1.trans a2) d2 e2 (PyT.der h4 g4)⟩)
/-- r[i] = e -/
theorem rp_setR {m : Mn (Sto K) α} {m2 : Mn (Sto K) Int} (h : EM K te Γ m) (ha : ∀ s, EP ta (Γ s) (pv K r)) (hb : EM K tb Γ m2) (hΓ : ∀ s s', Γ s = Γ s') : RP (tAsg te (gSub ta tb rSetL)) Γ (mb m fun x => mb m2 fun i => mb (mldL r) fun xs => mb (mo (ixN xs.length i)) fun k => mput r (.lst (xs.set k (PyT.enc x)))) fun _ => Γ := fun s I F N σ e d D q =>
  h s I F N σ e d _ (R.sat_imp (sat_mb.mp q) fun x s1 q v I1 N1 a1 d1 e1 r1 => ha s1 I1 F N1 σ e1 d1 _ fun v0 I2 a2 d2 r2 => hb s1 I2 F N1 σ (e1.up a2) d2 _ (R.sat_imp (sat_mb.mp q) fun i s2 q w I3 N3 a3 d3 e3 r3 => by
    obtain ⟨xs, h1, q⟩ := sat_mldL.mp (sat_mb.mp q)
    obtain ⟨k, h2, q⟩ := sat_mo.mp (sat_mb.mp q)
    obtain ⟨o0, _, q⟩ := sat_mput.mp q
    obtain ⟨vs, g1, g2⟩ := sto_lst e3 h1
    refine ⟨r.a, vs, i, k, r2, r3, ov_l g1, by rw [← rels_len g2]; exact h2, ?_⟩
    obtain ⟨N4, x1, x2, x3⟩ := e3.sput d3 h1 (o' := .lst (xs.set k (PyT.enc x))) (u' := .lst (vs.set k v)) ⟨_, rfl, rels_iff.mpr (All2.set (F := fun x v => Rp.r K x I3 v) (Py.up (a2.trans a3) (PyT.rel r1)) k (rels_iff.mp g2))⟩
    rw [x1]
    exact q I3 N4 σ ((a1.trans a2).trans a3) x2 (ecast (hΓ s2 _) x3)))
/-- r.append(e) -/
theorem rp_appR {m : Mn (Sto K) α} (ha : ∀ s, EP ta (Γ s) (pv K r)) (h : EM K te Γ m) (hΓ : ∀ s s', Γ s = Γ s') : RP (tDrop (tBM K "list" rAppend ta (tCons te tNil))) Γ (mb (mldL r) fun _ => mb m fun x => mb (mldL r) fun xs => mb (mc (lenOk xs.length) ()) fun _ => mput r (.lst (xs ++ [PyT.enc x]))) fun _ => Γ := fun s I F N σ e d D q =>
  ha s I F N σ e d _ fun v0 I1 a1 d1 r1 => by
    obtain ⟨xs0, h0, q⟩ := sat_mldL.mp (sat_mb.mp q)
    obtain ⟨vs0, g0, _⟩ := sto_lst (e.up a1) h0
    refine ⟨by rw [show v0 = V.ref r.a from r1]; exact .inl ⟨rfl, vs0, SqL.of (ov_l g0)⟩, h s I1 F N σ (e.up a1) d1 _ (R.sat_imp (sat_mb.mp q) fun x s1 q v I2 N2 a2 d2 e2 r2 => ?_)⟩
    obtain ⟨xs, h1, q⟩ := sat_mldL.mp (sat_mb.mp q)
    obtain ⟨c, q⟩ := sat_mc.mp (sat_mb.mp q)
    obtain ⟨o0, _, q⟩ := sat_mput.mp q
    obtain ⟨vs, g1, g2⟩ := sto_lst e2 h1
    refine ⟨r.a, vs, v, r1, rfl, ov_l g1, sz16 (by rw [← rels_len g2]; exact of_decide_eq_true c), ?_⟩
    obtain ⟨N4, x1, x2, x3⟩ := e2.sput d2 h1 (o' := .lst (xs ++ [PyT.enc x])) (u' := .lst (vs ++ [v])) ⟨_, rfl, rels_iff.mpr ((rels_iff.mp g2).append (.cons (PyT.rel r2) .nil))⟩
    rw [x1]
    exact q I2 N4 σ (a1.trans a2) x2 (ecast (hΓ s1 _) x3)
/-- r.extend(e), e a list -/
theorem rp_extR {m : Mn (Sto K) (List α)} (ha : ∀ s, EP ta (Γ s) (pv K r)) (h : EM K te Γ m) (hΓ : ∀ s s', Γ s = Γ s') : RP (tDrop (tBM K "list" rExtend ta (tCons te tNil))) Γ (mb (mldL r) fun _ => mb m fun ys => mb (mldL r) fun xs => mb (mc (lenOk (xs.length + ys.length)) ()) fun _ => mput r (.lst (xs ++ ys.map PyT.enc))) fun _ => Γ := fun s I F N σ e d D q =>
  ha s I F N σ e d _ fun v0 I1 a1 d1 r1 => by
    obtain ⟨xs0, h0, q⟩ := sat_mldL.mp (sat_mb.mp q)
    obtain ⟨vs0, g0, _⟩ := sto_lst (e.up a1) h0
    refine ⟨by rw [show v0 = V.ref r.a from r1]; exact .inl ⟨rfl, vs0, SqL.of (ov_l g0)⟩, h s I1 F N σ (e.up a1) d1 _ (R.sat_imp (sat_mb.mp q) fun ys s1 q v I2 N2 a2 d2 e2 ⟨b, us, y1, y2, y3⟩ => ?_)⟩
    obtain ⟨xs, h1, q⟩ := sat_mldL.mp (sat_mb.mp q)
    obtain ⟨c, q⟩ := sat_mc.mp (sat_mb.mp q)
    obtain ⟨o0, _, q⟩ := sat_mput.mp q
    obtain ⟨vs, g1, g2⟩ := sto_lst e2 h1
    refine ⟨r.a, b, vs, us, r1, by rw [y1], ov_l g1, ex_ov d2 _ _ y2, sz16' (by rw [← rels_len g2, ← y3.length]; exact of_decide_eq_true c), ?_⟩
    obtain ⟨N4, x1, x2, x3⟩ := e2.sput d2 h1 (o' := .lst (xs ++ ys.map PyT.enc)) (u' := .lst (vs ++ us)) ⟨_, rfl, rels_iff.mpr ((rels_iff.mp g2).append (rels_iff.mp (rels_enc y3)))⟩
    rw [x1]
    exact q I2 N4 σ (a1.trans a2) x2 (ecast (hΓ s1 _) x3)
/-- r.clear() -/
theorem rp_clearR (ha : ∀ s, EP ta (Γ s) (pv K r)) (hΓ : ∀ s s', Γ s = Γ s') : RP (tDrop (tBM0 K "list" rClear ta)) Γ (mb (mldL r) fun _ => mput r (.lst [])) fun _ => Γ := fun s I F N σ e d D q =>
  ha s I F N σ e d _ fun v0 I1 a1 d1 r1 => by
    obtain ⟨xs0, h0, q⟩ := sat_mldL.mp (sat_mb.mp q)
    obtain ⟨vs0, g0, _⟩ := sto_lst (e.up a1) h0
    obtain ⟨o0, _, q⟩ := sat_mput.mp q
    refine ⟨by rw [show v0 = V.ref r.a from r1]; exact .inl ⟨rfl, vs0, SqL.of (ov_l g0)⟩, r.a, vs0, r1, rfl, ov_l g0, ?_⟩
    obtain ⟨N4, x1, x2, x3⟩ := (e.up a1).sput d1 h0 (o' := .lst []) (u' := .lst []) ⟨_, rfl, rfl⟩
    rw [x1]
    exact q I1 N4 σ a1 x2 (ecast (hΓ s _) x3)
/-- r.reverse() -/
theorem rp_revR (ha : ∀ s, EP ta (Γ s) (pv K r)) (hΓ : ∀ s s', Γ s = Γ s') : RP (tDrop (tBM0 K "list" rReverse ta)) Γ (mb (mldL r) fun xs => mput r (.lst xs.reverse)) fun _ => Γ := fun s I F N σ e d D q =>
  ha s I F N σ e d _ fun v0 I1 a1 d1 r1 => by
    obtain ⟨xs0, h0, q⟩ := sat_mldL.mp (sat_mb.mp q)
    obtain ⟨vs0, g0, g2⟩ := sto_lst (e.up a1) h0
    obtain ⟨o0, _, q⟩ := sat_mput.mp q
    refine ⟨by rw [show v0 = V.ref r.a from r1]; exact .inl ⟨rfl, vs0, SqL.of (ov_l g0)⟩, r.a, vs0, r1, rfl, ov_l g0, ?_⟩
    obtain ⟨N4, x1, x2, x3⟩ := (e.up a1).sput d1 h0 (o' := .lst xs0.reverse) (u' := .lst vs0.reverse) ⟨_, rfl, rels_iff.mpr (rels_iff.mp g2).reverse⟩
    rw [x1]
    exact q I1 N4 σ a1 x2 (ecast (hΓ s _) x3)
/-- r.pop(i) -/
theorem em_popR {m : Mn (Sto K) Int} (ha : ∀ s, EP ta (Γ s) (pv K r)) (h : EM K te Γ m) (hΓ : ∀ s s', Γ s = Γ s') : EM K (tBM K "list" rPopAt ta (tCons te tNil)) Γ (mb (mldL r) fun _ => mb m fun i => mb (mldL r) fun xs => mb (mo (if decide (-(2 ^ 63) ≤ i ∧ i < 2 ^ 63) = true then (ixN xs.length i).bind fun k => (xs[k]?.bind (PyT.dec (α := α))).map fun x => (x, xs.eraseIdx k) else none)) fun z => mb (mput r (.lst z.2)) fun _ => mp z.1) := fun s I F N σ e d Q q =>
  ha s I F N σ e d _ fun v0 I1 a1 d1 r1 => by
    obtain ⟨xs0, h0, q⟩ := sat_mldL.mp (sat_mb.mp q)
    obtain ⟨vs0, g0, _⟩ := sto_lst (e.up a1) h0
    refine ⟨by rw [show v0 = V.ref r.a from r1]; exact .inl ⟨rfl, vs0, SqL.of (ov_l g0)⟩, h s I1 F N σ (e.up a1) d1 _ (R.sat_imp (sat_mb.mp q) fun i s1 q v I2 N2 a2 d2 e2 r2 => ?_)⟩
    obtain ⟨xs, h1, q⟩ := sat_mldL.mp (sat_mb.mp q)
    obtain ⟨z, hz, q⟩ := sat_mo.mp (sat_mb.mp q)
    obtain ⟨o0, _, q⟩ := sat_mput.mp (sat_mb.mp q)
    obtain ⟨vs, g1, g2⟩ := sto_lst e2 h1
    by_cases c : decide (-(2 ^ 63) ≤ i ∧ i < 2 ^ 63) = true
    · rw [if_pos c] at hz
      have c := of_decide_eq_true c
      obtain ⟨k, hk, hz⟩ := Option.bind_eq_some_iff.mp hz
      obtain ⟨x, hx, rfl⟩ := Option.map_eq_some_iff.mp hz
      obtain ⟨p, hp, hx⟩ := Option.bind_eq_some_iff.mp hx
      obtain ⟨u, u1, u2⟩ := (rels_iff.mp g2).get hp
      rw [rels_len g2] at hk
      obtain ⟨k1, k2, _⟩ := ixN_seq hk
      refine ⟨r.a, vs, i, k, u, r1, by rw [show v = V.int i from r2], ov_l g1, c.1, c.2, k1, u1, ?_⟩
      obtain ⟨N4, x1, x2, x3⟩ := e2.sput d2 h1 (o' := .lst (xs.eraseIdx k)) (u' := .lst (vs.eraseIdx k)) ⟨_, rfl, rels_iff.mpr (All2.eraseIdx k (rels_iff.mp g2))⟩
      rw [x1]
      exact q u I2 N4 (a1.trans a2) x2 (ecast (hΓ s1 _) x3) (PyT.der hx u2)
    · rw [if_neg c] at hz
      cases hz
/-! new objects -/
/-- a fresh list, put into the store -/
theorem em_new {m : Mn (Sto K) (List α)} (h : EO te Γ m (rOw (ol K))) (hΓ : ∀ s s', Γ s = Γ s') : EM K te Γ (mb m fun xs => mnew (.lst (xs.map PyT.enc))) := fun s I F N σ e d Q q => h s I F N σ e d Q (R.sat_imp (sat_mb.mp q) fun xs s1 q v H' I' N' a1 e1 ⟨a, Ma, h1, h2, h3, h4, vs, h5, h6⟩ => by
  subst h1 h4 h5
  obtain ⟨y1, y2⟩ := dis_ov_l h3
  have ha : ov N' I' a = none := ov_none' (h2.some_l sing_same) (y1.some_l sing_same)
  obtain ⟨g1, g2, g3, g4⟩ := e1.snew y2 ha (o := .lst (xs.map PyT.enc)) (u := .lst vs) ⟨vs, rfl, rels_enc h6⟩
  exact sat_mnew.mp q a g1 (.ref a) I' _ a1 g3 (ecast (hΓ s1 _) g4) rfl)
/-- a display of items of any kinds -/
theorem em_newL {m : Mn (Sto K) ζ} {psf : ζ → List PV} {items : ζ → List Py} (h : AM tl Γ m psf) (hp : ∀ z I vs, All2 (fun (p : PV) v => p.r I v) (psf z) vs → Py.rels K I (items z) vs) (hl : ∀ z, (items z).length ≤ 1000 := by intro _; decide) (hΓ : ∀ s s', Γ s = Γ s') : EM K (tLst tl) Γ (mb m fun z => mnew (.lst (items z))) := fun s I F N σ e d Q q =>
  h s I F N σ e d _ (R.sat_imp (sat_mb.mp q) fun z s1 q vs I1 N1 a1 d1 e1 r1 => by
    have rr := hp z I1 vs r1
    refine ⟨by rw [← rels_len rr]; exact sz2 (hl z), fun p hpn => ?_⟩
    obtain ⟨g1, g2, g3, g4⟩ := e1.snew d1 hpn (o := .lst (items z)) (u := .lst vs) ⟨vs, rfl, rr⟩
    rw [g2]
    exact sat_mnew.mp q p g1 (.ref p) I1 _ a1 g3 (ecast (hΓ s1 _) g4) rfl)
/-! an object of the store read as a value -/
theorem EnvOk.anyF {I F F' : Hp} : ∀ {N : Hp} {σ : L2.St} {Γ : List Sl}, EnvOk I F N σ Γ → Mir.noOw Γ = true → EnvOk I F' F' σ Γ
  | _, _, _, .nil, _ => .nil
  | _, _, _, .no o e, h => .no o (EnvOk.anyF e h)
  | _, _, _, .im q e, h => .im q (EnvOk.anyF e h)
  | _, _, _, .ow q d e, h => by cases h
theorem EnvOk.imp1 {I F : Hp} {p p' : PV} : ∀ {N : Hp} {σ : L2.St} {Γ : List Sl} {j : Nat}, EnvOk I F N σ Γ → Γ[j]? = some (.im p) → (∀ v, p.r I v → p'.r I v) → EnvOk I F N σ (Γ.set j (.im p'))
  | _, _, _, _, .nil, h, _ => by simp at h
  | _, _, _, 0, .no _ _, h, _ => by simp at h
  | _, _, _, 0, .ow _ _ _, h, _ => by simp at h
  | _, _, _, 0, .im q e, h, f => by
    cases (Sl.im.inj (Option.some.inj h))
    exact .im (f _ q) e
  | _, _, _, j + 1, .no o e, h, f => .no o (EnvOk.imp1 (j := j) e (by simpa using h) f)
  | _, _, _, j + 1, .im q e, h, f => .im q (EnvOk.imp1 (j := j) e (by simpa using h) f)
  | _, _, _, j + 1, .ow q d e, h, f => .ow q d (EnvOk.imp1 (j := j) e (by simpa using h) f)
/-- the store lent out as values: what stands in it stands in I1 -/
theorem borG {s : Sto K} {I F N : Hp} {σ : L2.St} {Γs Γ0 : List Sl} (e : EnvG s I F N σ Γs) (d : Dis N I) (w : Wk Γs Γ0) (n : noOw Γ0 = true) : ∃ I1, Dis F I1 ∧ EnvOk I1 F F σ Γ0 ∧ ov F I1 = ov N I ∧ Ex I I1 ∧ (∀ a u, N a = some u → F a = none → I1 a = some u) ∧ (∀ a o, s.f a = some o → ∃ u, I1 a = some u ∧ Ob.rel K I o u) ∧ (∀ I2, Ex I1 I2 → Dis F I2 → ∃ I3, Ex I I3 ∧ Dis N I3 ∧ ov N I3 = ov F I2) := by
  obtain ⟨G, g1, g2, e0⟩ := e
  obtain ⟨I1, x1, x2, x3, x4⟩ := bor e0 d w n
  obtain ⟨y1, y2⟩ := dis_ov_l x1
  have hI : Ex I (ov G I1) := fun a o h => by
    have hN : N a = none := d.some_r h
    have h1 : ov (ov G F) I1 a = ov N I a := by rw [x3]
    rw [ov_r hN, h] at h1
    have hGF := e0.sub hN
    obtain ⟨z1, z2⟩ := ov_none hGF
    rw [ov_r hGF] at h1
    rw [ov_r z1]
    exact h1
  have e3 : ov F (ov G I1) = ov N I := by rw [ov_assoc, ← ov_comm g2, x3]
  refine ⟨ov G I1, dis_ov_r g2.symm y2, (x2.up (ex_ov y1)).anyF n, e3, hI, fun a u hN hF => ?_, fun a o h => ?_, fun I2 a2 d2 => ?_⟩
  · have h1 : ov F (ov G I1) a = ov N I a := by rw [e3]
    rw [ov_r hF, ov_l hN] at h1
    exact h1
  · obtain ⟨u, h1, h2⟩ := Sto.get g1 h
    exact ⟨u, ov_l h1, h2⟩
  · have k := x4 (fun a => match G a with | some _ => none | none => I2 a) (fun a o h => by
        have hG : G a = none := y1.some_r h
        show (match G a with | some _ => none | none => I2 a) = some o
        rw [hG]
        exact a2 a o (by rw [ov_r hG]; exact h)) (fun a => by
        cases hG : G a with
        | some u => exact .inr (by show (match G a with | some _ => none | none => I2 a) = none; rw [hG])
        | none =>
          rcases d2 a with q | q
          · exact .inl (by rw [ov_r hG]; exact q)
          · exact .inr (by show (match G a with | some _ => none | none => I2 a) = none; rw [hG]; exact q))
    obtain ⟨I3, k1, k2, k3⟩ := k
    refine ⟨I3, k1, k2, k3.trans ?_⟩
    funext a
    cases hG : G a with
    | some u =>
      have hF : F a = none := g2.some_l hG
      rw [ov_l (ov_l hG), ov_r hF]
      exact (a2 a u (ov_l hG)).symm
    | none =>
      show ov (ov G F) _ a = ov F I2 a
      cases hF : F a with
      | some u => rw [ov_l (show ov G F a = some u by rw [ov_r hG]; exact hF), ov_l hF]
      | none =>
        rw [ov_r (ov_none' hG hF), ov_r hF]
        show (match G a with | some _ => none | none => I2 a) = I2 a
        rw [hG]
/-- an expression of no state, a name's list a value in it; j the name's slot -/
theorem em_borR [Rp γ] [Sc γ] {Γ0 : List Sl} {j : Nat} {Γ1 : List α → List Sl} {m0 : List α → Mn Unit γ} (w : ∀ s, Wk (Γ s) Γ0) (n : noOw Γ0 = true) (hj : Γ0[j]? = some (.im (pv K r))) (h1 : ∀ xs, Γ0.set j (.im (pv K xs)) = Γ1 xs) (h : ∀ xs, EM K te (fun _ : Unit => Γ1 xs) (m0 xs)) (hn : ∀ xs, noOw (Γ1 xs) = true) : EM K te Γ (mb (mldT α r) fun xs => mu (m0 xs)) := fun s I F N σ e d Q q => by
  obtain ⟨ps, xs, q1, q2, q⟩ := sat_mldT.mp (sat_mb.mp q)
  obtain ⟨I1, x1, x2, x3, x5, _, x6, x4⟩ := borG e d (w s) n
  obtain ⟨u, y1, vs, y2, y3⟩ := x6 _ _ q1
  have e1 : EnvOk I1 F F σ (Γ1 xs) := by
    rw [← h1]
    exact x2.imp1 hj fun v hv => ⟨r.a, vs, hv, by rw [y1, y2], decs_rel q2 (Py.ups x5 y3)⟩
  rw [← x3]
  refine h xs () I1 F F σ (EnvG.of e1) x1 Q (R.sat_imp (sat_mu.mp q) fun x _ q v I2 N2 a2 d2 e2 r2 => ?_)
  cases e2.unit.noOw (hn xs)
  obtain ⟨I3, z1, z2, z3⟩ := x4 I2 a2 d2
  rw [← z3]
  exact q v I3 N z1 z2 (e.up z1) (Sc.eq.mpr (Sc.eq.mp r2))
end
end Mir

/-! Mir22: equality of tuples, isinstance of lists or tuples, displays with a star, tuples made, lists changed further -/
namespace Mir
open PySem L2
/-! ### data of tuples -/
section
variable {α β γ δ ε : Type} [Rp α] [Rp β] [Rp γ] [Rp δ] [Rp ε] [Dt α] [Dt β] [Dt γ] [Dt δ] [Dt ε]
instance dtTu : Dt (Tu α) where
  dt xs := .tuple (xs.l.map Dt.dt)
  rel := fun ⟨a, vs, h1, h2, h3⟩ => by rw [h1]; exact .tup h2 (dpAll_of h3)
  lay := fun xs => by simp [PyData.canLay0, layAll_of xs.l]
  dep := Dt.dep α + 1
  dpt := fun xs => by
    have := depAll_of xs.l
    simp [PyData.depth]
    omega
  eqv := fun xs ys => by
    have := eqvAll_of xs.l ys.l
    obtain ⟨xs⟩ := xs
    obtain ⟨ys⟩ := ys
    simp [PyData.eqv] at this ⊢
    exact this
instance dtProd : Dt (α × β) where
  dt x := .tuple [Dt.dt x.1, Dt.dt x.2]
  rel := fun ⟨a, v1, v2, h1, h2, h3, h4⟩ => by rw [h1]; exact .tup h2 (.cons (Dt.rel h3) (.cons (Dt.rel h4) .nil))
  lay := fun x => by simp [PyData.canLay0, PyData.canLayAll0, Dt.lay]
  dep := max (Dt.dep α) (Dt.dep β) + 1
  dpt := fun x => by
    have h1 := Dt.dpt x.1
    have h2 := Dt.dpt x.2
    simp [PyData.depth, PyData.depthAll]
    omega
  eqv := fun x y => by
    have h1 := Dt.eqv x.1 y.1
    have h2 := Dt.eqv x.2 y.2
    obtain ⟨a, b⟩ := x
    obtain ⟨a', b'⟩ := y
    simp only at h1 h2
    simp [PyData.eqv, PyData.eqvAll, h1, h2]
instance dtSq : Dt (Sq α) where
  dt x := if x.t = true then .tuple (x.l.map Dt.dt) else .list (x.l.map Dt.dt)
  rel := fun {K x H v} h => by
    obtain ⟨t, l⟩ := x
    cases t with
    | true => exact Dt.rel (x := Tu.mk l) h
    | false => exact Dt.rel (x := l) h
  lay := fun x => by
    obtain ⟨t, l⟩ := x
    cases t <;> simp [PyData.canLay0, layAll_of l]
  dep := Dt.dep α + 1
  dpt := fun x => by
    obtain ⟨t, l⟩ := x
    have := depAll_of l
    cases t <;> (simp [PyData.depth]; omega)
  eqv := fun x y => by
    obtain ⟨t, l⟩ := x
    obtain ⟨t', l'⟩ := y
    have := eqvAll_of l l'
    cases t <;> cases t' <;> simp [PyData.eqv] at this ⊢ <;> exact this
/-- data that are not None -/
class DtN (α : Type) [Rp α] [Dt α] : Prop where
  n : ∀ x : α, PyData.eqv .none (Dt.dt x) = false ∧ PyData.eqv (Dt.dt x) .none = false
instance dtnInt : DtN Int := ⟨fun x => by simp [Dt.dt, PyData.eqv]⟩
instance dtnBool : DtN Bool := ⟨fun x => by simp [Dt.dt, PyData.eqv]⟩
instance dtnList : DtN (List α) := ⟨fun x => by simp [Dt.dt, PyData.eqv]⟩
instance dtnTu : DtN (Tu α) := ⟨fun x => by simp [Dt.dt, PyData.eqv]⟩
instance dtnProd : DtN (α × β) := ⟨fun x => by simp [Dt.dt, PyData.eqv]⟩
/-- None, or data -/
abbrev optDt [DtN α] : Dt (Option α) where
  dt x := match x with
    | none => .none
    | some y => Dt.dt y
  rel := fun {K x H v} h => by
    cases x with
    | none => rw [show v = V.non from h]; exact .non
    | some y => exact Dt.rel h.1
  lay := fun x => by
    cases x with
    | none => simp [PyData.canLay0]
    | some y => exact Dt.lay y
  dep := Dt.dep α
  dpt := fun x => by
    cases x with
    | none => simp [PyData.depth]
    | some y => exact Dt.dpt y
  eqv := fun x y => by
    cases x with
    | none =>
      cases y with
      | none => simp [PyData.eqv]
      | some y => simp [(DtN.n y).1]
    | some x =>
      cases y with
      | none => simp [(DtN.n x).2]
      | some y =>
        have := Dt.eqv x y
        simp [this]
instance dtOptL : Dt (Option (List α)) := optDt
instance dtOptTu : Dt (Option (Tu α)) := optDt
instance dtOptB : Dt (Option Bool) := optDt
instance dtOptP : Dt (Option (α × β)) := optDt
instance dtUnit : Dt Unit where
  dt _ := .none
  rel := fun h => by rw [show _ = V.non from h]; exact .non
  lay := fun _ => by simp [PyData.canLay0]
  dep := 0
  dpt := fun _ => by simp [PyData.depth]
  eqv := fun x y => by simp [PyData.eqv]
end
section
variable {K : PySem.W.Frag} {S α β γ ρ ζ τ : Type} [SH S] [Rp α] [Rp β] [Rp γ] {Γ : S → List Sl} {Γ1 : List Sl} {te ta tb : TE} {tl : TA}
/-- == of data of two types -/
theorem o_eqDh [Dt α] [Dt β] {x : α} {y : β} (h : Dt.dep α ≤ 64) (h2 : Dt.dep β ≤ 64) : Op2 (rEqD K) (pv K x) (pv K y) (pv K (PyData.eqv (Dt.dt x) (Dt.dt y))) := fun I M u v Q d hx hy k =>
  ⟨_, _, Dt.rel (Rp.up (ex_ov d) hx), Dt.rel (Rp.up (ex_ov d) hy), shaped_of h x, shaped_of h2 y, k _ I (Ex.refl I) d rfl⟩
/-! ### isinstance -/
theorem ty_sqt {H : Hp} {a : Addr} {vs : List V} (h : SqT K H a vs) : TyX K H (.ref a) (.type "tuple") := by
  rcases h with (h | ⟨o, h⟩) | ⟨o, its, n, h1, h2, h3⟩
  · exact .base (.tup h)
  · exact .fTuple h
  · exact .kTuple h1 h2
theorem ty_tu {xs : Tu α} : ∀ H v, (pv K xs).r H v → TyX K H v (.type "tuple") := fun H v ⟨a, vs, h1, h2, h3⟩ => by rw [h1]; exact ty_sqt h2
theorem ty_prod {x : α × β} : ∀ H v, (pv K x).r H v → TyX K H v (.type "tuple") := fun H v ⟨a, v1, v2, h1, h2, h3, h4⟩ => by rw [h1]; exact ty_sqt h2
theorem ty_non : ∀ H v, (pv K ()).r H v → TyX K H v (.type "NoneType") := fun H v h => by rw [show v = V.non from h]; exact .base .non
theorem ty_sq {xs : Sq α} : ∀ H v, (pv K xs).r H v → TyX K H v (.type (if xs.t = true then "tuple" else "list")) := fun H v h => by
  obtain ⟨t, l⟩ := xs
  cases t with
  | true => exact ty_tu (xs := Tu.mk l) H v h
  | false => exact ty_list (xs := l) H v h
theorem c_isiSq {xs : Sq α} : Cb (rIsi K) [pv K xs, tyPV "tuple"] (pv K xs.t) := by
  obtain ⟨t, l⟩ := xs
  cases t with
  | true => exact c_isi (b := true) (t := "tuple") (ty_sq (xs := Sq.mk true l)) (by decide +kernel)
  | false => exact c_isi (b := false) (t := "list") (ty_sq (xs := Sq.mk false l)) (by decide +kernel)
theorem c_isiSqL {xs : Sq α} : Cb (rIsi K) [pv K xs, tyPV "list"] (pv K (!xs.t)) := by
  obtain ⟨t, l⟩ := xs
  cases t with
  | true => exact c_isi (b := false) (t := "tuple") (ty_sq (xs := Sq.mk true l)) (by decide +kernel)
  | false => exact c_isi (b := true) (t := "list") (ty_sq (xs := Sq.mk false l)) (by decide +kernel)
/-- isinstance(x, (list, tuple)) -/
def tyPV2 (n m : String) : PV := ⟨fun H v => ∃ a, v = V.ref a ∧ H a = some (.tup [.ty n, .ty m]), fun e ⟨a, h1, h2⟩ => ⟨a, h1, e _ _ h2⟩⟩
theorem ep_ty2 {n m : String} (h : AP tl Γ1 [tyPV n, tyPV m]) : EP (tTup tl) Γ1 (tyPV2 n m) := fun I F N σ e d Q q => h I F N σ e d _ fun vs I1 a1 d1 r1 => by
  obtain ⟨u, us, rfl, g1, r1⟩ := all2_c r1
  obtain ⟨w, ws, rfl, g2, r1⟩ := all2_c r1
  cases all2_n r1
  have e1 : u = V.ty n := g1
  have e2 : w = V.ty m := g2
  subst e1 e2
  refine ⟨sz2 (Nat.le_of_ble_eq_true rfl), fun p hp => ?_⟩
  have e3 : upd (ov N I1) p (.tup [V.ty n, V.ty m]) = ov N (upd I1 p (.tup [V.ty n, V.ty m])) := ov_upd (ov_none hp).1
  rw [e3]
  exact q _ _ (a1.trans (Ex.new (ov_none hp).2)) (dis_upd d1 (ov_none hp).1) ⟨p, rfl, upd_same⟩
def kitB2 (t n m : String) : Option Bool := match kitB t n with
  | some true => some true
  | some false => kitB t m
  | none => none
theorem kit_2 {t n m : String} {b : Bool} (h : kitB2 t n m = some b) : PySem.W.kitAny K (.type t) [.type n, .type m] = some b := by
  unfold kitB2 at h
  cases e : kitB t n with
  | none => rw [e] at h; cases h
  | some c =>
    rw [e] at h
    cases c with
    | true => cases h; exact kitAny_cons (kit_ty e) (fun z => nomatch z) fun _ => rfl
    | false =>
      have h : kitB t m = some b := h
      refine kitAny_cons (kit_ty e) (fun _ => ?_) fun z => nomatch z
      exact kitAny_cons (kit_ty h) (fun z => by rw [z]; exact kitAny_nil) fun z => z
theorem c_isi2 {p : PV} {n m t : String} {b : Bool} (h : ∀ H v, p.r H v → TyX K H v (.type t)) (e : kitB2 t n m = some b) : Cb (rIsiT K) [p, tyPV2 n m] (pv K b) := cb2 fun I N v u Q d h1 ⟨a, h2, h3⟩ q => ⟨v, a, [.ty n, .ty m], .type t, [.type n, .type m], b, by rw [h2], ex_ov d _ _ h3, .cons (.ty n) (.cons (.ty m) .nil), h _ v (p.up (ex_ov d) h1), kit_2 e, q _ I (Ex.refl I) d rfl⟩
theorem c_isi2Sq {xs : Sq α} : Cb (rIsiT K) [pv K xs, tyPV2 "list" "tuple"] (pv K true) := by
  obtain ⟨t, l⟩ := xs
  cases t with
  | true => exact c_isi2 (t := "tuple") (ty_sq (xs := Sq.mk true l)) (by decide +kernel)
  | false => exact c_isi2 (t := "list") (ty_sq (xs := Sq.mk false l)) (by decide +kernel)
theorem c_lenP {x : α × β} : Cb (fun xs H Q => ∃ p ys, xs = [.ref p] ∧ (SqL K H p ys ∨ SqT K H p ys) ∧ Q (.int ys.length) H) [pv K x] (pv K (2 : Int)) := cb1 fun I N v Q d ⟨a, v1, v2, h1, h2, _⟩ q => ⟨a, _, by rw [h1], .inr (sqt_ov d h2), q _ I (Ex.refl I) d rfl⟩
/-! ### truth of a list -/
theorem tp_truL {xs : List α} (h : EP te Γ1 (pv K xs)) : TP (fun σ H Q => te σ H fun x H' => ∃ k, TruV K x H' k ∧ Q k H') Γ1 (!xs.isEmpty) := fun I F N σ e d Q q => h I F N σ e d _ fun v I1 a1 d1 ⟨a, vs, h1, h2, h3⟩ => by
  subst h1
  refine ⟨!vs.isEmpty, .inl ⟨vs, SqL.of (ex_ov d1 _ _ h2), rfl⟩, ?_⟩
  have e : vs.isEmpty = xs.isEmpty := by cases h3 <;> rfl
  rw [e]
  exact q I1 a1 d1
/-! ### displays with a star -/
def AL (ta : TA) (Γ : S → List Sl) (m : Mn S (List α)) (K : PySem.W.Frag) : Prop := ∀ (s : S) (I F N : Hp) (σ : L2.St), EnvG s I F N σ (Γ s) → Dis N I → ∀ Q : List V → Hp → Prop,
  (m s).sat (fun xs s' => ∀ vs I' N', Ex I I' → Dis N' I' → EnvG s' I' F N' σ (Γ s') → Rs K xs I' vs → Q vs (ov N' I')) → ta σ (ov N I) Q
theorem al_nil : AL tNil Γ (mp ([] : List α)) K := fun s I F N σ e d Q q => q [] I N (Ex.refl I) d e .nil
theorem al_cons {m1 : Mn S α} {m2 : Mn S (List α)} (h : EM K te Γ m1) (t : AL tl Γ m2 K) : AL (tCons te tl) Γ (mb m1 fun x => mb m2 fun xs => mp (x :: xs)) K := fun s I F N σ e d Q q =>
  h s I F N σ e d _ (R.sat_imp (sat_mb.mp q) fun x s1 q v I1 N1 a1 d1 e1 r1 => t s1 I1 F N1 σ e1 d1 _ (R.sat_imp (sat_mb.mp q) fun xs s2 q vs I2 N2 a2 d2 e2 r2 => q _ I2 N2 (a1.trans a2) d2 e2 (.cons (Rp.up a2 r1) r2)))
theorem al_star {m1 : Mn S (Sq α)} {m2 : Mn S (List α)} (h : EM K te Γ m1) (t : AL tl Γ m2 K) : AL (StX.tStar K te tl) Γ (mb m1 fun x => mb m2 fun xs => mp (x.l ++ xs)) K := fun s I F N σ e d Q q =>
  h s I F N σ e d _ (R.sat_imp (sat_mb.mp q) fun x s1 q v I1 N1 a1 d1 e1 r1 => by
    obtain ⟨a, us, h1, h2, h3⟩ := sq_or d1 r1
    exact ⟨a, us, h1, h2.symm, t s1 I1 F N1 σ e1 d1 _ (R.sat_imp (sat_mb.mp q) fun xs s2 q vs I2 N2 a2 d2 e2 r2 => q _ I2 N2 (a1.trans a2) d2 e2 ((rs_up a2 h3).append r2))⟩)
theorem eo_lstS {m : Mn S (List α)} (h : AL tl Γ m K) : EO (tLst tl) Γ (mb m fun xs => mc (lenOk xs.length) xs) (rOw (ol K)) := fun s I F N σ e d Q q => h s I F N σ e d _ (R.sat_imp (sat_mb.mp q) fun xs s1 q vs I1 N1 a1 d1 e1 r1 => by
  obtain ⟨c, q⟩ := sat_mc.mp q
  refine ⟨sz16' (by rw [← r1.length]; exact of_decide_eq_true c), fun p hp => ?_⟩
  exact q _ _ I1 N1 a1 e1 (new_list d1 hp r1))
theorem em_tupS {m : Mn S (List α)} (h : AL tl Γ m K) : EM K (tTup tl) Γ (mb m fun xs => mc (lenOk xs.length) (Tu.mk xs)) := fun s I F N σ e d Q q => h s I F N σ e d _ (R.sat_imp (sat_mb.mp q) fun xs s1 q vs I1 N1 a1 d1 e1 r1 => by
  obtain ⟨c, q⟩ := sat_mc.mp q
  refine ⟨sz16' (by rw [← r1.length]; exact of_decide_eq_true c), fun p hp => ?_⟩
  obtain ⟨m1, m2, m3, m4⟩ := mk_tup (K := K) (vs := vs) d1 hp
  rw [m4]
  exact q _ _ N1 (a1.trans m1) m2 (e1.up m1) ⟨p, vs, rfl, m3, rs_up m1 r1⟩)
/-! ### tuples made -/
theorem c_tupSq {xs : Sq α} : Cb (fun xs H Q => ∃ p ys, xs = [.ref p] ∧ ((SqL K H p ys ∧ ∀ l, H l = none → Q (.ref l) (upd H l (.tup ys))) ∨ (SqT K H p ys ∧ Q (.ref p) H))) [pv K xs] (pv K (Tu.mk xs.l)) := cb1 fun I N v Q d h q => by
  obtain ⟨a, vs, h1, h2, h3⟩ := sq_ref h
  rcases h2 with ⟨_, h2⟩ | ⟨_, h2⟩
  · refine ⟨a, vs, by rw [h1], .inl ⟨SqL.of (ex_ov d _ _ h2), fun p hp => ?_⟩⟩
    obtain ⟨m1, m2, m3, m4⟩ := mk_tup (K := K) (vs := vs) d hp
    rw [m4]
    exact q _ _ m1 m2 ⟨p, vs, rfl, m3, rs_up m1 h3⟩
  · exact ⟨a, vs, by rw [h1], .inr ⟨sqt_ov d h2, q _ I (Ex.refl I) d ⟨a, vs, rfl, h2, h3⟩⟩⟩
theorem c_tupL {xs : List α} : Cb (fun xs H Q => ∃ p ys, xs = [.ref p] ∧ ((SqL K H p ys ∧ ∀ l, H l = none → Q (.ref l) (upd H l (.tup ys))) ∨ (SqT K H p ys ∧ Q (.ref p) H))) [pv K xs] (pv K (Tu.mk xs)) := c_tupSq (xs := Sq.mk false xs)
theorem em_tupRev {m : Mn S (List α)} (h : EM K te Γ m) : EM K (RT.tTupRev K te) Γ (mb m fun xs => mp (Tu.mk xs.reverse)) := fun s I F N σ e d Q q => h s I F N σ e d _ (R.sat_imp (sat_mb.mp q) fun xs s1 q v I1 N1 a1 d1 e1 ⟨a, vs, h1, h2, h3⟩ => by
  refine ⟨a, vs, h1, SqL.of (ex_ov d1 _ _ h2), fun p hp => ?_⟩
  obtain ⟨m1, m2, m3, m4⟩ := mk_tup (K := K) (vs := vs.reverse) d1 hp
  rw [m4]
  exact q _ _ N1 (a1.trans m1) m2 (e1.up m1) ⟨p, _, rfl, m3, rs_up m1 h3.reverse⟩)
/-- (x,) * k -/
def repTOk (n : Nat) (k : Int) : Bool := decide (0 < n ∧ n ≤ 1000 ∧ 2 ≤ k ∧ k ≤ 1000)
theorem o_repT {xs : Tu α} {k : Int} (c : repTOk xs.l.length k = true) : Op2 (rRepT K) (pv K xs) (pv K k) (pv K (Tu.mk (repL xs.l k))) := fun I M u v Q d ⟨a, vs, h1, h2, h3⟩ hy q => by
  obtain ⟨c1, c2, c3, c4⟩ := of_decide_eq_true c
  have hl := h3.length
  refine ⟨a, k, vs, h1, hy, sqt_ov d h2, fun z => ?_, c3, c4, by rw [← hl]; exact c2, fun p hp => ?_⟩
  · rw [z] at hl
    have hl : xs.l.length = 0 := hl
    omega
  · obtain ⟨m1, m2, m3, m4⟩ := mk_tup (K := K) (vs := (List.replicate k.toNat vs).flatten) d hp
    rw [m4]
    exact q _ _ m1 m2 ⟨p, _, rfl, m3, rs_up m1 (rs_flat h3 _)⟩
/-- xs + ys, a new list -/
theorem eo_cat {m1 m2 : Mn S (List α)} (h1 : EM K ta Γ m1) (h2 : EM K tb Γ m2) : EO (tOp rCat ta tb) Γ (mb m1 fun xs => mb m2 fun ys => mc (lenOk (xs.length + ys.length)) (xs ++ ys)) (rOw (ol K)) := fun s I F N σ e d Q q =>
  h1 s I F N σ e d _ (R.sat_imp (sat_mb.mp q) fun xs s1 q v I1 N1 a1 d1 e1 ⟨a, vs, x1, x2, x3⟩ => h2 s1 I1 F N1 σ e1 d1 _ (R.sat_imp (sat_mb.mp q) fun ys s2 q w I2 N2 a2 d2 e2 ⟨b, us, y1, y2, y3⟩ => by
    obtain ⟨c, q⟩ := sat_mc.mp q
    refine ⟨a, b, vs, us, x1, y1, ex_ov d2 _ _ (a2 _ _ x2), ex_ov d2 _ _ y2, sz16' (by rw [← x3.length, ← y3.length]; exact of_decide_eq_true c), fun p hp => ?_⟩
    exact q _ _ I2 N2 (a1.trans a2) e2 (new_list d2 hp ((rs_up a2 x3).append y3))))
/-- xs * k, a new list -/
theorem eo_repM {m1 : Mn S (List α)} {m2 : Mn S Int} (h1 : EM K ta Γ m1) (h2 : EM K tb Γ m2) : EO (tOp rRep ta tb) Γ (mb m1 fun xs => mb m2 fun k => mc (repOk xs.length k) (repL xs k)) (rOw (ol K)) := fun s I F N σ e d Q q =>
  h1 s I F N σ e d _ (R.sat_imp (sat_mb.mp q) fun xs s1 q v I1 N1 a1 d1 e1 ⟨a, vs, x1, x2, x3⟩ => h2 s1 I1 F N1 σ e1 d1 _ (R.sat_imp (sat_mb.mp q) fun k s2 q w I2 N2 a2 d2 e2 r2 => by
    obtain ⟨c, q⟩ := sat_mc.mp q
    obtain ⟨c1, c2, c3⟩ := of_decide_eq_true c
    refine ⟨a, k, vs, x1, r2, ex_ov d2 _ _ (a2 _ _ x2), c1, c2, sz16' (by rw [← x3.length]; exact c3), fun p hp => ?_⟩
    exact q _ _ I2 N2 (a1.trans a2) e2 (new_list d2 hp (rs_flat (rs_up a2 x3) _))))
/-- a slice of a list, a new list -/
theorem eo_sl {m0 : Mn S (List α)} {m1 m2 : Mn S (Option Int)} {t1 t2 : TO} (h : EM K te Γ m0) (h1 : OPm t1 Γ m1) (h2 : OPm t2 Γ m2) : EO (tSl (rSlL K) te t1 t2) Γ (mb m0 fun xs => mb m1 fun lo => mb m2 fun hi => mp (cutL xs lo hi)) (rOw (ol K)) := fun s I F N σ e d Q q =>
  h s I F N σ e d _ (R.sat_imp (sat_mb.mp q) fun xs s1 q v I1 N1 a1 d1 e1 ⟨a, vs, r1, r2, r3⟩ => h1 s1 I1 F N1 σ e1 d1 _ (R.sat_imp (sat_mb.mp q) fun lo s2 q I2 N2 a2 d2 e2 => h2 s2 I2 F N2 σ e2 d2 _ (R.sat_imp (sat_mb.mp q) fun hi s3 q I3 N3 a3 d3 e3 => by
    refine ⟨a, vs, r1, SqL.of (ex_ov d3 _ _ (a3 _ _ (a2 _ _ r2))), fun p hp => ?_⟩
    exact q _ _ I3 N3 ((a1.trans a2).trans a3) e3 (new_list d3 hp (rs_up (a2.trans a3) (rs_cut r3))))))
/-- list(x) of anything walked as a sequence -/
theorem eo_listM {m : Mn S (Sq α)} (h : EM K te Γ m) : EO (tCB (rListOf K) (tCons te tNil)) Γ (mb m fun x => mp x.l) (rOw (ol K)) := fun s I F N σ e d Q q => h s I F N σ e d _ (R.sat_imp (sat_mb.mp q) fun xs s1 q v I1 N1 a1 d1 e1 r1 => by
  obtain ⟨a, vs, h1, h2, h3⟩ := sq_or d1 r1
  exact ⟨a, vs, by rw [h1], h2, fun l hl => q _ _ I1 N1 a1 e1 (new_list d1 hl h3)⟩)
/-! ### owned lists, further -/
/-- an item of another kind is put behind; the list is not known from then on -/
theorem rp_appN {j : Nat} {m : Mn S β} {xs : List α} {Γ' : S → List Sl} (hj : ∀ s, (Γ s)[j]? = some (.ow (ol K xs))) (h : EM K te Γ m) (hΓ : ∀ s, (Γ s).set j .no = Γ' s) : RP (tDrop (tBM K "list" rAppend (tVar j) (tCons te tNil))) Γ (mb m fun _ => mc (lenOk xs.length) ()) (fun _ => Γ') := fun s I F N σ e d D q => by
  obtain ⟨a, vs, h1, h2, h3⟩ := own_at e (hj s)
  refine ⟨_, h1, .inl ⟨rfl, vs, SqL.of (ov_l h2)⟩, h s I F N σ e d _ (R.sat_imp (sat_mb.mp q) fun x s1 q v I1 N1 a1 d1 e1 r1 => ?_)⟩
  obtain ⟨c, q⟩ := sat_mc.mp q
  have c := of_decide_eq_true c
  obtain ⟨a', Ma, M', h1', ⟨us, h2', h3'⟩, h5, h4', h6, h7, h8⟩ := e1.foc (hj s1)
  rw [h1] at h1'
  cases h1'
  subst h4' h2'
  obtain ⟨y1, y2⟩ := dis_ov_l d1
  refine ⟨a, us, v, rfl, rfl, ov_l (ov_l sing_same), sz16 (by rw [← h3'.length]; exact c), ?_⟩
  have z : Dis (sing a (.lst (us ++ [v]))) I1 := dis_sing (y1.some_l sing_same)
  have zM : Dis (sing a (.lst (us ++ [v]))) M' := dis_sing (h5.some_l sing_same)
  have e9 : upd (ov (ov (sing a (.lst us)) M') I1) a (.lst (us ++ [v])) = ov M' (ov (sing a (.lst (us ++ [v]))) I1) := by
    rw [upd_own, ov_swap zM.symm, ov_assoc]
  rw [e9]
  exact q (ov (sing a (.lst (us ++ [v]))) I1) M' σ (a1.trans (ex_ov z)) (dis_ov_r zM.symm y2) (ecast (hΓ s1) (h8 _ (ex_ov z)))
/-- xs.extend(ys) -/
theorem rp_ext {j : Nat} {m : Mn S (List α)} {xs : List α} {Γ' : List α → S → List Sl} (hj : ∀ s, (Γ s)[j]? = some (.ow (ol K xs))) (h : EM K te Γ m) (hΓ : ∀ ys s, (Γ s).set j (.ow (ol K ys)) = Γ' ys s) : RP (tDrop (tBM K "list" rExtend (tVar j) (tCons te tNil))) Γ (mb m fun ys => mc (lenOk (xs.length + ys.length)) (xs ++ ys)) Γ' := fun s I F N σ e d D q => by
  obtain ⟨a, vs, h1, h2, h3⟩ := own_at e (hj s)
  refine ⟨_, h1, .inl ⟨rfl, vs, SqL.of (ov_l h2)⟩, h s I F N σ e d _ (R.sat_imp (sat_mb.mp q) fun ys s1 q v I1 N1 a1 d1 e1 ⟨b, ws, y1, y2, y3⟩ => ?_)⟩
  obtain ⟨c, q⟩ := sat_mc.mp q
  obtain ⟨a', us, h1', h2', h3'⟩ := own_at e1 (hj s1)
  rw [h1] at h1'
  cases h1'
  refine ⟨a, b, us, ws, rfl, by rw [y1], ov_l h2', ex_ov d1 _ _ y2, sz16' (by rw [← h3'.length, ← y3.length]; exact of_decide_eq_true c), ?_⟩
  obtain ⟨N2, x1, x2, x3⟩ := own_upd (P' := ol K (xs ++ ys)) (us := us ++ ws) (vs := us) (I' := I1) (N' := N1) e1 d1 (hj s1) h1 ol_sing ⟨_, rfl, h3'.append y3⟩
  rw [x1]
  exact q I1 N2 σ a1 x2 (by rw [← hΓ]; exact x3)
end
end Mir

/-! Mir23: t[::-1] of tuples; chains; written arguments; rules that were lacking -/
namespace L2
open PySem PySem.Spec PyProof.Rows HT
section
variable {prog : Program} {w : World} {A : Around} {E : Value → Shared → Prop} {s : Shared}
theorem places_back (n : Nat) : Builtin.Slice.slicePlaces ((n : Int) - 1) (-1) (-1) = n := by
  unfold Builtin.Slice.slicePlaces
  rw [if_neg (by omega)]
  by_cases h : ((n : Int) - 1) > -1
  · rw [if_pos h]
    have e : (((n : Int) - 1 - -1 - 1) / (- -1)) = (n : Int) - 1 := by
      rw [show (- -1 : Int) = 1 by decide, Int.ediv_one]
      omega
    rw [e]
    omega
  · rw [if_neg h]
    show (0 : Int).toNat = n
    omega
theorem adjust_back (n : Nat) : Builtin.Slice.sliceAdjust none none (-1) (n : Int) = ((n : Int) - 1, -1) := by
  unfold Builtin.Slice.sliceAdjust
  have h : ((-1 : Int) < 0) := by decide
  simp only [h, if_true]
theorem sliceApplied_back {sl : Addr} {t : Tok} {n : Nat} {Q : Int × Int × Nat → Shared → Prop} (hs : s.heap.IsSliceOf sl .none .none (.int (-1) t))
    (h : Q ((n : Int) - 1, -1, n) s) : wpAny (model prog w) A (Builtin.Slice.sliceApplied (.ref sl) (pure (n : Int))) Q E s := by
  obtain ⟨os, hos, hcs, hds⟩ := id hs
  unfold Builtin.Slice.sliceApplied Builtin.Slice.sliceFields
  refine wpAny_bind (wpAny_bind (wpAny_field hos hds (x := .none) rfl (wpAny_bind (wpAny_field hos hds (x := .none) rfl (wpAny_bind (wpAny_field hos hds (x := .int (-1) t) rfl (wpAny_pure ?_)))))))
  refine wpAny_bind (slicePart_int ?_)
  show wpAny _ _ (if ((-1 : Int) == 0) = true then _ else _) _ _ s
  rw [if_neg (by decide)]
  refine wpAny_bind (slicePart_none (wpAny_bind (slicePart_none (wpAny_bind (wpAny_pure ?_)))))
  show wpAny _ _ (match Builtin.Slice.sliceAdjust none none (-1) (n : Int) with | (lo, hi) => pure (lo, (-1 : Int), Builtin.Slice.slicePlaces lo hi (-1))) _ _ s
  rw [adjust_back]
  show wpAny _ _ (pure ((n : Int) - 1, (-1 : Int), Builtin.Slice.slicePlaces ((n : Int) - 1) (-1) (-1))) _ _ s
  rw [places_back]
  exact wpAny_pure h
theorem pick_back (xs : Array Value) : ((List.range xs.size).filterMap fun (m : Nat) => xs[(((xs.size : Nat) : Int) - 1 + (m : Int) * -1).toNat]?).toArray = xs.toList.reverse.toArray := by
  have e : (fun (m : Nat) => xs[(((xs.size : Nat) : Int) - 1 + (m : Int) * -1).toNat]?) = fun m => xs[xs.size - 1 - m]? := by
    funext m
    have : (((xs.size : Nat) : Int) - 1 + (m : Int) * -1).toNat = xs.size - 1 - m := by omega
    rw [this]
  rw [e]
  have h1 := PySem.W.krv_range xs.size
  have h2 : ((List.range xs.size).map fun k => xs.size - 1 - k).filterMap (xs[·]?) = xs.toList.reverse := by
    rw [h1]
    rw [List.filterMap_reverse, PySem.W.krv_all]
  rw [List.filterMap_map] at h2
  rw [← h2]
  rfl
theorem getItem_tuple_back {t sl : Addr} {tk : Tok} {items : Array Value} {Q : Value → Shared → Prop} (ht : IsTup s.heap t items) (hs : s.heap.IsSliceOf sl .none .none (.int (-1) tk))
    (h : Q (.ref s.heap.objs.size) { s with heap := s.heap.push { cls := .type "tuple", data := .seq items.toList.reverse.toArray } })
    (hsz : items.size ≤ sizeLine) : wpAny (model prog w) A (getItem (.ref t) (.ref sl)) Q E s := by
  have htake : sizeOk (.seq items.toList.reverse.toArray) := by
    show items.toList.reverse.toArray.size ≤ sizeLine
    rw [List.size_toArray, List.length_reverse, Array.length_toList]
    exact hsz
  obtain ⟨os, hos, hcs, hds⟩ := id hs
  have hTs : s.TypeIs (.ref sl) "slice" := ⟨os, hos, hcs⟩
  unfold getItem
  try with_reducible refine wpAny_holding ?_
  first | refine wpAny_bind (wpAny_pure ?_) | skip
  refine wpAny_bind (wpAny_sequenceKey ht.typeIs (by decide) ?_)
  refine wpAny_bind (wpAny_callSpecial?_slot (name := Str.ofString "__getitem__") ht.typeIs PyProof.Rows.slot_tuple_getitem
    (wpAny_call_entry PyProof.Rows.slot_tuple_getitem ht.typeIs entry_tuple_getitem ?_ (args_tuple_getitem _ _)))
  show wpAny _ _ (Builtin.Tuple.tupleItemsOf (.ref t) >>= _) _ _ s
  refine wpAny_bind (tupleItemsOf_ ht ?_)
  refine wpAny_bind (wpAny_typeOf hTs ?_)
  rw [if_pos (by decide)]
  refine wpAny_bind (sliceApplied_back hs ?_)
  have hno : ¬ ((((items.size : Nat) : Int) - 1 == 0 && (-1 : Int) == 1 && items.size == items.size) = true) := by
    intro q
    rw [Bool.and_eq_true, Bool.and_eq_true] at q
    exact absurd (eq_of_beq q.1.2) (by decide)
  show wpAny _ _ (if (((items.size : Nat) : Int) - 1 == 0 && (-1 : Int) == 1 && items.size == items.size) = true then _ else _) _ _ s
  rw [if_neg hno, pick_back]
  first
    | exact wpAny_bind (m := Builtin.Tuple.tupleExact _) (wpAny_newObj_type (wpAny_pure ⟨_, rfl, wpAny_pure h⟩) htake)
    | exact wpAny_bind (m := Builtin.Tuple.tupleExact _) (wpAny_newObj_type (wpAny_bind (wpAny_pure (wpAny_pure ⟨_, rfl, wpAny_pure h⟩))) htake)
    | exact wpAny_bind (wpAny_bind (m := Builtin.Tuple.tupleExact _) (wpAny_newObj_type (wpAny_pure (wpAny_pure ⟨_, rfl, wpAny_pure h⟩)) htake))
    | exact wpAny_bind (wpAny_bind (m := Builtin.Tuple.tupleExact _) (wpAny_newObj_type (wpAny_pure ⟨_, rfl, wpAny_pure h⟩) htake))
end
section
variable {X : Cx}
/-- x[::-1], x a list or a tuple -/
def rBackSq (K : PySem.W.Frag) : V → Hp → VK → Prop := fun x H Q => ∃ a xs, x = .ref a ∧ ((SqL K H a xs ∧ ∀ p, H p = none → Q (.ref p) (upd H p (.lst xs.reverse))) ∨ (SqT K H a xs ∧ ∀ p, H p = none → Q (.ref p) (upd H p (.tup xs.reverse))))
def tBackSq (K : PySem.W.Frag) (te : TE) : TE := fun σ H Q => te σ H fun x H1 => rBackSq K x H1 Q
theorem pe_backSq {e : Expr} {te : TE} {k : Nat} {p1 p2 p3 pos : Pos} (he : PE X e te) : PE X (.Subscript e (.Slice none none (some (.UnaryOp .USub (.Constant (.int 1) k p1) p2)) p3) pos) (tBackSq X.K te) := by
  refine ⟨fun pins s σ H Q I h => ?_⟩
  refine Subscript_ (thn (he.run pins s σ H _ I h) fun v s1 ⟨x, H1, I1, r1, q1⟩ => ?_)
  obtain ⟨a, xs, ex, q⟩ := q1
  subst ex
  cases r1
  have hst : PO X (some (.UnaryOp .USub (.Constant (.int 1) k p1) p2)) (tPart (tUn (rU fun i => .int (-i)) (tC (.int 1)))) := po_some (pe_un un_neg pe_int)
  refine wpAny_Slice (thn (po_none.run pins s1 σ H1 (fun o H2 => o = none ∧ H2 = H1) I1 ⟨rfl, rfl⟩) fun vl s2 ⟨l, H2, I2, pl, el, e2⟩ => ?_)
  subst el e2
  refine thn (po_none.run pins s2 σ H2 (fun o H3 => o = none ∧ H3 = H2) I2 ⟨rfl, rfl⟩) fun vu s3 ⟨u, H3, I3, pu, eu, e3⟩ => ?_
  subst eu e3
  refine thn (hst.run pins s3 σ H3 (fun o H4 => o = some (-1) ∧ H4 = H3) I3 ⟨1, rfl, -1, rfl, rfl, rfl⟩) fun vs s4 ⟨o, H4, I4, ps, eo, e4⟩ => ?_
  subst eo e4
  have I5 : Inv X pins σ H4 { s4 with heap := s4.heap.push { cls := .type "slice", data := .fields #[vl, vu, vs] } } := I4.kept (t' := s4.toks) fun b ob q => Heap.get?_push_of_some _ q
  show wpAny (model X.prog X.w) X.A (subscriptTail e (.Slice none none (some (.UnaryOp .USub (.Constant (.int 1) k p1) p2)) p3) (.ref a) (.ref s4.heap.objs.size)) (EP X pins σ Q) X.xe { s4 with heap := s4.heap.push { cls := .type "slice", data := .fields #[vl, vu, vs] } }
  rcases q with ⟨hx, q⟩ | ⟨hx, q⟩
  · obtain ⟨its, r, ht, hz⟩ := I5.list hx
    have hlen := r.length
    refine tail_any (ops := [.ref a, .ref s4.heap.objs.size]) ht.isList.typeIs (PySem.slot_list_getitem.lookup) ?_ (by with_unfolding_all rfl)
    refine wpAny_getItem_list_slice ht.isList (Heap.IsSliceOf.new _ vl vu vs) pl pu ps (by decide) ?_ (by rw [List.size_toArray]; omega)
    rw [PySem.W.krv_pick]
    refine ⟨.ref _, _, I5.laid (t' := s4.toks) (o := .lst xs.reverse) (fun b ob q => Heap.get?_push_of_some _ q) (Nat.le_refl _) ?_, rfl, q _ (I5.hok.fresh (Nat.le_refl _))⟩
    exact ⟨by rw [List.length_reverse]; exact hz, _, 0, r.reverse, Heap.get?_push_size _ rfl⟩
  · obtain ⟨its, r, ht, hz⟩ := I5.tuple hx
    have hlen := r.length
    cases pl
    cases pu
    obtain ⟨i, t, ei⟩ : ∃ i t, vs = Value.int i t ∧ i = -1 := by
      cases ps with
      | int i t => exact ⟨_, _, rfl, rfl⟩
    obtain ⟨rfl, rfl⟩ := ei
    refine tail_any (ops := [.ref a, .ref s4.heap.objs.size]) ht.typeIs (PyProof.Rows.slot_tuple_getitem.lookup) ?_ (by with_unfolding_all rfl)
    refine getItem_tuple_back ht (Heap.IsSliceOf.new _ .none .none _) ?_ (by rw [List.size_toArray]; omega)
    refine ⟨.ref _, _, I5.laid (t' := s4.toks) (o := .tup xs.reverse) (fun b ob q => Heap.get?_push_of_some _ q) (Nat.le_refl _) ?_, rfl, q _ (I5.hok.fresh (Nat.le_refl _))⟩
    exact ⟨by rw [List.length_reverse]; exact hz, _, r.reverse, _, Heap.get?_push_size _ rfl, rfl, 0, rfl⟩
end
end L2
namespace Mir
open PySem L2
section
variable {K : PySem.W.Frag} {S α β γ ρ ζ τ : Type} [SH S] [Rp α] [Rp β] [Rp γ] {Γ : S → List Sl} {Γ1 : List Sl} {te ta tb tc : TE} {tl : TA}
theorem ep_backSq {xs : Sq α} (h : EP te Γ1 (pv K xs)) : EP (tBackSq K te) Γ1 (pv K (Sq.mk xs.t xs.l.reverse)) := fun I F N σ e d Q q => h I F N σ e d _ fun v I1 a1 d1 r1 => by
  obtain ⟨t, l⟩ := xs
  cases t with
  | true =>
    obtain ⟨a, vs, h1, h2, h3⟩ := (show Rp.r K (Tu.mk l) I1 v from r1)
    refine ⟨a, vs, h1, .inr ⟨sqt_ov d1 h2, fun p hp => ?_⟩⟩
    obtain ⟨m1, m2, m3, m4⟩ := mk_tup (K := K) (vs := vs.reverse) d1 hp
    rw [m4]
    exact q _ _ (a1.trans m1) m2 ⟨p, _, rfl, m3, rs_up m1 h3.reverse⟩
  | false =>
    obtain ⟨a, vs, h1, h2, h3⟩ := (show Rp.r K l I1 v from r1)
    refine ⟨a, vs, h1, .inl ⟨SqL.of (ex_ov d1 _ _ h2), fun p hp => ?_⟩⟩
    obtain ⟨m1, m2, m3, m4⟩ := mk_list (K := K) (xs := l.reverse) d1 hp h3.reverse
    rw [m4]
    exact q _ _ (a1.trans m1) m2 m3
theorem eo_back {m : Mn S (List α)} (h : EM K te Γ m) : EO (tRevL K te) Γ (mb m fun xs => mp xs.reverse) (rOw (ol K)) := fun s I F N σ e d Q q => h s I F N σ e d _ (R.sat_imp (sat_mb.mp q) fun xs s1 q v I1 N1 a1 d1 e1 ⟨a, vs, h1, h2, h3⟩ =>
  ⟨a, vs, h1, SqL.of (ex_ov d1 _ _ h2), fun p hp => q _ _ I1 N1 a1 e1 (new_list d1 hp h3.reverse)⟩)
/-- a < b < c -/
theorem em_chain {r1 r2 : R2} {f : α → β → Bool} {g : β → γ → Bool} {m1 : Mn S α} {m2 : Mn S β} {m3 : Mn S γ} (ha : EM K ta Γ m1) (hb : EM K tb Γ m2) (hc : EM K tc Γ m3) (h1 : ∀ x y, Op2 r1 (pv K x) (pv K y) (pv K (f x y))) (h2 : ∀ x y, Op2 r2 (pv K x) (pv K y) (pv K (g x y))) :
    EM K (tChain r1 r2 ta tb tc) Γ (mb m1 fun x => mb m2 fun y => mi (f x y) (mb m3 fun z => mp (g y z)) (mp false)) := fun s I F N σ e d Q q =>
  ha s I F N σ e d _ (R.sat_imp (sat_mb.mp q) fun x s1 q v1 I1 N1 a1 d1 e1 g1 => hb s1 I1 F N1 σ e1 d1 _ (R.sat_imp (sat_mb.mp q) fun y s2 q v2 I2 N2 a2 d2 e2 g2 =>
    h1 x y I2 N2 v1 v2 _ d2 (Rp.up a2 g1) g2 fun v3 I3 a3 d3 g3 => by
      obtain ⟨qt, qf⟩ := sat_mi.mp q
      refine ⟨f x y, g3, ?_⟩
      cases hf : f x y with
      | true => exact hc s2 I3 F N2 σ (e2.up a3) d3 _ (R.sat_imp (sat_mb.mp (qt hf)) fun z s3 q v4 I4 N4 a4 d4 e4 g4 => h2 y z I4 N4 v2 v4 Q d4 (Rp.up (a3.trans a4) g2) g4 fun v5 I5 a5 d5 g5 => q v5 I5 N4 ((((a1.trans a2).trans a3).trans a4).trans a5) d5 (e4.up a5) g5)
      | false => exact qf hf _ I3 N2 ((a1.trans a2).trans a3) d3 (e2.up a3) rfl))
/-- a written argument -/
theorem am_lit {p : PV} {m : Mn S ζ} {ps : ζ → List PV} (h : ∀ s, EP te (Γ s) p) (t : AM tl Γ m ps) : AM (tCons te tl) Γ m fun z => p :: ps z := fun s I F N σ e d Q q =>
  h s I F N σ e d _ fun v I1 a1 d1 r1 => t s I1 F N σ (e.up a1) d1 _ (R.sat_imp q fun z s2 q vs I2 N2 a2 d2 e2 r2 => q _ I2 N2 (a1.trans a2) d2 e2 (.cons (p.up a2 r1) r2))
/-- None is not expected -/
theorem em_unoptM {m : Mn S (Option α)} (h : EM K te Γ m) : EM K te Γ (mb m fun o => mo o) := fun s I F N σ e d Q q => h s I F N σ e d Q (R.sat_imp (sat_mb.mp q) fun o s1 q v I1 N1 a1 d1 e1 r1 => by
  obtain ⟨x, hx, q⟩ := sat_mo.mp q
  subst hx
  exact q v I1 N1 a1 d1 e1 r1.1)
theorem em_ixTl {xs : Tu α} {m2 : Mn S Int} (ha : ∀ s, EP ta (Γ s) (pv K xs)) (hb : EM K tb Γ m2) : EM K (tOp (rIxT K) ta tb) Γ (mb m2 fun i => mo (atI xs.l i)) := fun s I F N σ e d Q q =>
  ha s I F N σ e d _ fun v I1 a1 d1 r1 => hb s I1 F N σ (e.up a1) d1 _ (R.sat_imp (sat_mb.mp q) fun i s2 q u I2 N2 a2 d2 e2 r2 => by
    obtain ⟨x, hx, q⟩ := sat_mo.mp q
    exact o_ixT (xs := xs.l) hx I2 N2 v u Q d2 (Rp.up a2 r1) r2 fun w I3 a3 d3 r3 => q w I3 N2 ((a1.trans a2).trans a3) d3 (e2.up a3) r3)
/-- != of data of two types -/
theorem o_neDh [Dt α] [Dt β] {x : α} {y : β} (h : Dt.dep α ≤ 64) (h2 : Dt.dep β ≤ 64) : Op2 (rNeD K) (pv K x) (pv K y) (pv K (!PyData.eqv (Dt.dt x) (Dt.dt y))) := fun I M u v Q d hx hy k =>
  ⟨_, _, Dt.rel (Rp.up (ex_ov d) hx), Dt.rel (Rp.up (ex_ov d) hy), shaped_of h x, shaped_of h2 y, k _ I (Ex.refl I) d rfl⟩
end
/-! ### enumerate -/
def enumL {α : Type} (xs : List α) : List (Int × α) := xs.zipIdx.map fun p => ((p.2 : Int), p.1)
theorem bt_tuple' : bootBuiltins "tuple" = some (.type "tuple") := by decide +kernel
end Mir

/-! Mir24: not of a list, enumerate; dicts of ints, their items sorted -/
namespace L2
namespace DX2
open PySem PySem.Spec PyProof.Rows L2.DX
/-- a pair of ints in a heap -/
def inOf : Option Value → Int
  | some (.int i _) => i
  | _ => 0
def prOf (h : Heap) (v : Value) : Int × Int := match v with
  | .ref b => match h.get? b with
    | some o => match o.data with
      | .seq a _ => (inOf a[0]?, inOf a[1]?)
      | _ => (0, 0)
    | none => (0, 0)
  | _ => (0, 0)
theorem pairs_at {K : Type} [DecidableEq K] {prog : Program} {w : World} {knd : PySem.KeyKind prog w K} : ∀ {es : List DictEntry} {kvs : List (K × Value)}, Pairs knd es kvs → ∀ {j : Nat} {e : DictEntry}, es[j]? = some e → ∃ k v, kvs[j]? = some (k, v) ∧ knd.is k e.key = true ∧ e.val = v
  | _, _, .nil, j, e, h => by simp at h
  | _, _, .cons h1 h3 h2, 0, e, h => by
    cases (Option.some.inj h)
    exact ⟨_, _, rfl, h1, h3⟩
  | _, _, .cons h1 h3 h2, j + 1, e, h => pairs_at h2 (j := j) (by simpa using h)
theorem pairs_len {K : Type} [DecidableEq K] {prog : Program} {w : World} {knd : PySem.KeyKind prog w K} : ∀ {es : List DictEntry} {kvs : List (K × Value)}, Pairs knd es kvs → es.length = kvs.length
  | _, _, .nil => rfl
  | _, _, .cons _ _ h2 => congrArg Nat.succ (pairs_len h2)
section
variable {X : Cx}
def rItemsI : V → List V → Hp → VK → Prop := fun x xs H Q => ∃ (a : Addr) (kvs : List (Key × V)), x = .ref a ∧ xs = [] ∧ H a = some (.dK kvs) ∧ ∀ p, H p = none → Q (.ref p) (upd H p (itemsO p a))
theorem mt_itemsI : MtR X "dict.items" rItemsI := by
  intro pins s σ H x xs v us Q I rx rxs h
  obtain ⟨a, kvs, rfl, rfl, ha, q⟩ := h
  cases rx
  cases rxs
  obtain ⟨z, hd, vs, kv, o, es, ep, ho, hx, hdat, _⟩ := I.hok a _ ha
  refine DT.callItems (es := es) (ep := ep) hd ⟨o, ho, hx, hdat⟩ ?_
  have hf : H s.heap.objs.size = none := I.hok.fresh (Nat.le_refl _)
  exact ⟨.ref s.heap.objs.size, upd H s.heap.objs.size (itemsO s.heap.objs.size a), I.laid (t' := s.toks) (fun b u e => Heap.get?_push_of_some _ e) (Nat.le_refl _) (itemsO_ok (Heap.get?_push_size _ rfl)), rfl, q _ hf⟩
abbrev entI (e : Int × Int) : Key × V := (Sum.inl e.1, V.int e.2)
/-- sorted(d.items()), ints to ints -/
def rSortI : List V → Hp → VK → Prop := fun vs H Q => ∃ (p a : Addr) (ks : List (Int × Int)), vs = [.ref p] ∧ H p = some (itemsO p a) ∧ H a = some (.dK (ks.map entI)) ∧ ks.length ≤ 10000 ∧
  ∀ (H' : Hp) (q : Addr) (zs : List (Addr × Int × Int)), (∀ b o, H b = some o → H' b = some o) → H q = none → (∀ z ∈ zs, H z.1 = none) → (zs.map (·.2)).Perm ks → (zs.map (·.2)).Pairwise (fun x y => SrtO.lexB y x = false) → H' q = some (.lst (zs.map fun z => V.ref z.1)) → (∀ z ∈ zs, H' z.1 = some (.tup [.int z.2.1, .int z.2.2])) → Q (.ref q) H'
theorem cr_sortI (hc : X.calm = true) : CallR X (.builtin "sorted") rSortI := by
  intro pins s σ H xs us Q I r h
  obtain ⟨p, a, ks, rfl, hp, ha, h64, q⟩ := h
  obtain rfl := Vals.ref1 r
  have view : s.heap.IsItemsView p a := (show ObjOk X.prog X.w H s.heap p (itemsO p a) from I.hok p _ hp).1
  obtain ⟨z, hd, xs', rel, o, es, ep, ho, hx, hdat, hes, hpr, hn⟩ := I.hok a _ ha
  have l1 : (ks.map entI).length = xs'.length := Paired.length rel
  rw [List.length_map] at l1
  have l2 : es.size = xs'.length := by rw [← Array.length_toList]; exact pairs_len hpr
  have hh : X.A.handled = none := I.ok.hd hc
  refine DT.sortedI (es := es) (ep := ep) hh view ⟨o, ho, hx, hdat⟩ (by rw [sizeLine_eq]; omega) fun h' tk as hk hlt hl hG => ?_
  have lak : as.length = ks.length := by omega
  have nd : as.Nodup := List.Pairwise.imp (fun h => Nat.ne_of_lt h) hG.rise
  -- the pairs that were made
  have pr : ∀ (j : Nat) (b : Addr), as[j]? = some b → ∃ (e : Int × Int) (t u : Tok), ks[j]? = some e ∧ h'.get? b = some { cls := .type "tuple", data := .seq #[Value.int e.1 t, Value.int e.2 u] } := by
    intro j b hj
    obtain ⟨en, he, hg⟩ := hG.pairs j b hj
    have he' : es.toList[j]? = some en := by rw [Array.getElem?_toList]; exact he
    obtain ⟨k, v, hx', hk', hv'⟩ := pairs_at hpr he'
    obtain ⟨e0, he0, r1, r2⟩ := DX.pget rel hx'
    rw [List.getElem?_map] at he0
    cases hkj : ks[j]? with
    | none =>
      rw [hkj] at he0
      exact nomatch (show (none : Option (Key × V)) = some e0 from he0)
    | some e =>
      rw [hkj] at he0
      have ee : entI e = e0 := Option.some.inj he0
      subst ee
      have hkey : k = Sum.inl e.1 := r1.symm
      subst hkey
      have rk := relV_key (show keyIs (Sum.inl e.1) en.key = true from hk')
      obtain ⟨t, ht⟩ : ∃ t, en.key = Value.int e.1 t := rk
      obtain ⟨u, hu⟩ : ∃ u, v = Value.int e.2 u := r2
      refine ⟨e, t, u, rfl, ?_⟩
      rw [hg, ht, hv', hu]
  -- the heap of the sort
  have hob : (h'.push { cls := .type "list", data := .seq (as.map Value.ref).toArray }).get? h'.objs.size = some (seqObj "list" (as.map Value.ref).toArray 0) := Heap.get?_push_size _ rfl
  have kb : ∀ b o, s.heap.get? b = some o → (h'.push { cls := .type "list", data := .seq (as.map Value.ref).toArray }).get? b = some o := fun b o e => Heap.get?_push_of_some _ (hk b o e)
  have ne0 : ∀ b o, h'.get? b = some o → b ≠ h'.objs.size := fun b o e => Nat.ne_of_lt (Heap.lt_size e)
  generalize hh2 : h'.push { cls := .type "list", data := .seq (as.map Value.ref).toArray } = h2 at hob kb ⊢
  have ka : ∀ b o, h'.get? b = some o → h2.get? b = some o := fun b o e => by rw [← hh2]; exact Heap.get?_push_of_some _ e
  have prk : ∀ (j : Nat) (b : Addr) (e : Int × Int), as[j]? = some b → ks[j]? = some e → prOf h' (.ref b) = e := by
    intro j b e hj he
    obtain ⟨e', t, u, he', hg⟩ := pr j b hj
    rw [he] at he'
    cases he'
    unfold prOf
    simp only [hg]
    rfl
  refine wpAny_call_entry PyProof.Rows.slot_list_sort ⟨_, hob, rfl⟩ PyProof.Rows.entry_list_sort
    (SrtO.list_sort_ord (s := { s with heap := h2, toks := tk }) (SrtO.swo_lex (prOf h')) hob (by rw [List.length_map, sizeLine_eq]; omega) (fun h2l => ?_) fun out o1 o2 => ⟨.none, rfl, ?_⟩) (PyProof.Rows.args_list_sort _)
  · refine SrtO.pairs_sortableO (s := { s with heap := h2, toks := tk }) (by omega) (fun v hm => ?_) fun o e => ?_
    · obtain ⟨b, hb, rfl⟩ := List.mem_map.mp hm
      obtain ⟨j, hj⟩ := List.mem_iff_getElem?.mp hb
      obtain ⟨e, t, u, he, hg⟩ := pr j b hj
      have e2 := prk j b e hj he
      exact ⟨b, _, t, u, 0, rfl, ka _ _ hg, rfl, by rw [e2]⟩
    · have e' : some o = some (seqObj "list" (as.map Value.ref).toArray 0) := e.symm.trans hob
      cases e'
      intro c
      exact absurd (Value.type.inj c) (by decide)
  · show EP X pins σ Q (.ref h'.objs.size) { s with heap := sortedHeap h2 h'.objs.size (as.map Value.ref) out.toArray, toks := tk }
    obtain ⟨zs, pz, ez⟩ := perm_lift (fun z : Addr × Int × Int => Value.ref z.1) o2.perm (as.zip ks) (by
      have m1 : (as.zip ks).map (·.1) = as := List.map_fst_zip (by rw [lak]; exact Nat.le_refl _)
      rw [← m1, List.map_map]
      simp [List.map_map, m1])
    have idx : ∀ z ∈ zs, ∃ j : Nat, as[j]? = some z.1 ∧ ks[j]? = some z.2 := by
      intro z' hz'
      obtain ⟨j, hj⟩ := List.mem_iff_getElem?.mp (pz.mem_iff.mp hz')
      exact ⟨j, List.getElem?_zip_eq_some.mp hj⟩
    have hout : out = zs.map fun z => Value.ref z.1 := ez.symm
    have hperm : (zs.map (·.2)).Perm ks := by
      have e := pz.map (·.2)
      have m2 : (as.zip ks).map (·.2) = ks := List.map_snd_zip (by rw [lak]; exact Nat.le_refl _)
      rw [m2] at e
      exact e
    have hsort : (zs.map (·.2)).Pairwise (fun x y => SrtO.lexB y x = false) := by
      rw [List.pairwise_map]
      have o1' := o1
      rw [hout] at o1'
      have o1'' := List.pairwise_map.mp o1'
      refine List.Pairwise.imp_of_mem (fun {x y} hx hy h => ?_) o1''
      obtain ⟨j, j1, j2⟩ := idx x hx
      obtain ⟨i, i1, i2⟩ := idx y hy
      have h' : SrtO.lexB (prOf h' (.ref y.1)) (prOf h' (.ref x.1)) = false := h
      rw [prk j _ _ j1 j2, prk i _ _ i1 i2] at h'
      exact h'
    -- behind the sort
    have kF : ∀ b o, b ≠ h'.objs.size → h2.get? b = some o → (sortedHeap h2 h'.objs.size (as.map Value.ref) out.toArray).get? b = some o := fun b o hb e => (PyProof.Rows.sortedHeap_old hb (Heap.lt_size e)).trans e
    have kS : ∀ b o, s.heap.get? b = some o → (sortedHeap h2 h'.objs.size (as.map Value.ref) out.toArray).get? b = some o := fun b o e => kF b o (ne0 _ _ (hk b o e)) (kb b o e)
    obtain ⟨eF, heF⟩ := PyProof.Rows.sortedHeap_at (vs := as.map Value.ref) (out := out.toArray) hob
    have I1 : Inv X pins σ H { s with heap := sortedHeap h2 h'.objs.size (as.map Value.ref) out.toArray, toks := tk } := I.kept (t' := tk) kS
    have hn0 : H h'.objs.size = none := I.hok.fresh (Nat.le_of_lt hlt)
    have hlen : (zs.map fun z => V.ref z.1).length ≤ sizeLine := by
      have e := hperm.length_eq
      rw [List.length_map] at e
      rw [List.length_map, sizeLine_eq]
      omega
    have rv : Vals (zs.map fun z => V.ref z.1) out := by
      rw [hout]
      exact vals_maps (fun z : Addr × Int × Int => V.ref z.1) (fun z => Value.ref z.1) zs fun _ _ => rfl
    have I2 : Inv X pins σ (upd H h'.objs.size (.lst (zs.map fun z => V.ref z.1))) { s with heap := sortedHeap h2 h'.objs.size (as.map Value.ref) out.toArray, toks := tk } :=
      I1.take (h' := sortedHeap h2 h'.objs.size (as.map Value.ref) out.toArray) (t' := tk) (fun b ob _ e => e) (I.fpOk (Nat.le_of_lt hlt) hn0) ⟨hlen, out, eF, rv, heF⟩
    obtain ⟨H2, I3, g, qt⟩ := DX.takeT (P := fun b vs => ∃ (j : Nat) (e : Int × Int), as[j]? = some b ∧ ks[j]? = some e ∧ vs = [.int e.1, .int e.2]) I as _ I2 nd fun b hb => by
      obtain ⟨j, hj⟩ := List.mem_iff_getElem?.mp hb
      obtain ⟨e, t, u, he, hg⟩ := pr j b hj
      have hbl : s.heap.objs.size ≤ b := Nat.le_of_lt (hG.above b hb)
      refine ⟨hbl, ?_, [.int e.1, .int e.2], ⟨j, e, hj, he, rfl⟩, fun H3 => ⟨(by rw [sizeLine_eq]; show 2 ≤ 16777216; omega), [Value.int e.1 t, Value.int e.2 u], .cons ⟨t, rfl⟩ (.cons ⟨u, rfl⟩ .nil), ⟨_, kF _ _ (ne0 _ _ hg) (ka _ _ hg), rfl, 0, rfl⟩⟩⟩
      rw [upd_ne (ne0 _ _ hg)]
      exact I.hok.fresh hbl
    have gr : ∀ b o, H b = some o → H2 b = some o := fun b o e => g b o (by rw [upd_ne (ne_of_none e hn0)]; exact e)
    refine ⟨.ref h'.objs.size, H2, I3, rfl, q H2 h'.objs.size zs gr hn0 (fun z' hz' => ?_) hperm hsort (g _ _ upd_same) fun z' hz' => ?_⟩
    · obtain ⟨i, i1, i2⟩ := idx z' hz'
      exact I.hok.fresh (Nat.le_of_lt (hG.above _ (List.mem_of_getElem? i1)))
    obtain ⟨i, i1, i2⟩ := idx z' hz'
    obtain ⟨vs, ⟨j, e, j1, j2, ev⟩, hH⟩ := qt z'.1 (List.mem_of_getElem? i1)
    have eij : i = j := (List.getElem?_inj (List.getElem?_eq_some_iff.mp i1).1 nd).mp (i1.trans j1.symm)
    subst eij
    have ee : e = z'.2 := Option.some.inj (j2.symm.trans i2)
    rw [ev, ee] at hH
    exact hH
end
end DX2
end L2
namespace Mir
open PySem L2
section
variable {K : PySem.W.Frag} {S α β ζ : Type} [SH S] [Rp α] [Rp β] {Γ : S → List Sl} {Γ1 : List Sl} {te ta tb : TE} {tl : TA}
/-- not xs, as a value -/
theorem ep_notL {xs : List α} (h : EP te Γ1 (pv K xs)) : EP (tNotT K te) Γ1 (pv K xs.isEmpty) := fun I F N σ e d Q q => h I F N σ e d _ fun v I1 a1 d1 ⟨a, vs, h1, h2, h3⟩ => by
  subst h1
  refine ⟨!vs.isEmpty, .inl ⟨vs, SqL.of (ex_ov d1 _ _ h2), rfl⟩, ?_⟩
  have e : vs.isEmpty = xs.isEmpty := by cases h3 <;> rfl
  rw [e, Bool.not_not]
  exact q _ I1 a1 d1 rfl
/-- enumerate(xs) -/
theorem it_enum {a : Addr} {xs : List α} {vs : List V} {I : Hp} (h : SqL K I a vs) (r : Rs K xs I vs) : ItOk K (Ite K a) I (enumL xs) := fun I1 N1 a1 d1 => by
  have h1 : SqL K (ov N1 I1) a vs := sql_up (a1.trans (ex_ov d1)) h
  refine ⟨fun i x hx => ?_, ⟨vs, h1, by unfold enumL; rw [List.length_map, List.length_zipIdx, r.length]; exact Nat.le_refl _⟩⟩
  unfold enumL at hx
  rw [List.getElem?_map] at hx
  obtain ⟨z, hz, rfl⟩ := Option.map_eq_some_iff.mp hx
  rw [List.getElem?_zipIdx] at hz
  obtain ⟨y, hy, rfl⟩ := Option.map_eq_some_iff.mp hz
  obtain ⟨v, e1, e2⟩ := r.get hy
  refine ⟨⟨vs, v, h1, e1⟩, fun u H' ⟨T, x', y1, y2, y3, y4⟩ => ?_⟩
  have e3 := y4 vs h1
  rw [e1] at e3
  cases e3
  obtain ⟨m1, m2, m3, m4⟩ := mk_tup (K := K) (vs := [.int (i : Nat), v]) d1 y2
  refine ⟨_, by rw [y3, m4], m1, m2, T, _, v, y1, m3, ?_, Rp.up (a1.trans m1) e2⟩
  show V.int (i : Nat) = V.int ((0 + i : Nat) : Int)
  rw [Nat.zero_add]
theorem im_enum {m : Mn S ζ} {f : ζ → List α} (h : AM tl Γ m fun z => [pv K (f z)]) : IM K (iEnum K tl) Γ (mb m fun z => mp (enumL (f z))) := fun s I F N σ e d Rr q =>
  h s I F N σ e d _ (R.sat_imp (sat_mb.mp q) fun z s1 q vs I1 N1 a1 d1 e1 r1 => by
    obtain ⟨u, us, rfl, ⟨a, xs, x1, x2, x3⟩, r1⟩ := all2_c r1
    cases all2_n r1
    exact ⟨a, xs, by rw [x1], SqL.of (ex_ov d1 _ _ x2), q _ I1 N1 a1 d1 e1 (it_enum (SqL.of x2) x3)⟩)
/-! ### dicts of ints to ints -/
abbrev entI (e : Int × Int) : Key × V := DX2.entI e
def putI (kvs : List (Int × Int)) (k v : Int) : List (Int × Int) := if (kvs.any fun kv => decide (kv.1 = k)) = true then kvs.map (fun kv => if kv.1 = k then (kv.1, v) else kv) else kvs ++ [(k, v)]
def mergeI (xs : List (Int × Int)) : List (Int × Int) := xs.foldl (fun acc kv => putI acc kv.1 kv.2) []
theorem putI_eq (kvs : List (Int × Int)) (k v : Int) : putK (kvs.map entI) (Sum.inl k) (V.int v) = (putI kvs k v).map entI := by
  have e : ((kvs.map entI).any fun kv => decide (kv.1 = (Sum.inl k : Key))) = kvs.any fun kv => decide (kv.1 = k) := by
    rw [List.any_map]
    congr 1
    funext kv
    show decide ((Sum.inl kv.1 : Key) = Sum.inl k) = decide (kv.1 = k)
    by_cases h : kv.1 = k
    · rw [h]; simp
    · rw [decide_eq_false h, decide_eq_false fun q => h (Sum.inl.inj q)]
  unfold putK putI
  rw [e]
  by_cases h : (kvs.any fun kv => decide (kv.1 = k)) = true
  · rw [if_pos h, if_pos h, List.map_map, List.map_map]
    congr 1
    funext kv
    show (if (Sum.inl kv.1 : Key) = Sum.inl k then ((Sum.inl kv.1 : Key), V.int v) else entI kv) = entI (if kv.1 = k then (kv.1, v) else kv)
    by_cases h : kv.1 = k
    · rw [if_pos (by rw [h]), if_pos h]
    · rw [if_neg fun q => h (Sum.inl.inj q), if_neg h]
  · rw [if_neg h, if_neg h, List.map_append]
    rfl
theorem mergeI_go : ∀ (xs acc : List (Int × Int)), mergeK (acc.map entI) (xs.map entI) = (xs.foldl (fun acc kv => putI acc kv.1 kv.2) acc).map entI
  | [], acc => rfl
  | x :: xs, acc => by
    show mergeK (putK (acc.map entI) (Sum.inl x.1) (V.int x.2)) (xs.map entI) = _
    rw [putI_eq, mergeI_go xs]
    rfl
/-- an owned dict -/
def od (kvs : List (Int × Int)) : OP := ⟨fun _ a M => M = sing a (.dK (kvs.map entI)), fun _ h => h⟩
def rDictP (K : PySem.W.Frag) : List V → Hp → VK → Prop := fun xs H Q => ∃ (a : Addr) (ps : List Addr) (kvs : List (Key × V)), xs = [.ref a] ∧ SqL K H a (ps.map V.ref) ∧ Paired (fun p kv => SqT K H p [kV kv.1, kv.2]) ps kvs ∧ ∀ p, H p = none → Q (.ref p) (upd H p (.dK (mergeK [] kvs)))
theorem rs_pairs {xs : List (Int × Int)} {vs : List V} {I : Hp} (h : Rs K xs I vs) : ∃ ps : List Addr, vs = ps.map V.ref ∧ Paired (fun p kv => SqT K I p [kV kv.1, kv.2]) ps (xs.map entI) := by
  induction h with
  | nil => exact ⟨[], rfl, .nil⟩
  | cons h t ih =>
    obtain ⟨ps, e, p⟩ := ih
    obtain ⟨a, v1, v2, h1, h2, h3, h4⟩ := h
    have e1 : v1 = V.int _ := h3
    have e2 : v2 = V.int _ := h4
    subst e1 e2
    exact ⟨a :: ps, by rw [h1, e]; rfl, .cons h2 p⟩
/-- dict(xs), xs a list of pairs -/
theorem eo_dict {m : Mn S (List (Int × Int))} (h : EM K te Γ m) : EO (tCB (rDictP K) (tCons te tNil)) Γ (mb m fun xs => mp (mergeI xs)) (rOw od) := fun s I F N σ e d Q q => h s I F N σ e d _ (R.sat_imp (sat_mb.mp q) fun xs s1 q v I1 N1 a1 d1 e1 ⟨a, vs, h1, h2, h3⟩ => by
  obtain ⟨ps, e9, p9⟩ := rs_pairs h3
  refine ⟨a, ps, xs.map entI, by rw [h1], SqL.of (by rw [← e9]; exact ex_ov d1 _ _ h2), ?_, fun p hp => ?_⟩
  · have up : ∀ {ps : List Addr} {kvs : List (Key × V)}, Paired (fun p kv => SqT K I1 p [kV kv.1, kv.2]) ps kvs → Paired (fun p kv => SqT K (ov N1 I1) p [kV kv.1, kv.2]) ps kvs := fun {ps kvs} z => by
      induction z with
      | nil => exact .nil
      | cons h t ih => exact .cons (sqt_ov d1 h) ih
    exact up p9
  · obtain ⟨x1, x2⟩ := ov_none hp
    have e3 : mergeK [] (xs.map entI) = (mergeI xs).map entI := mergeI_go xs []
    refine q _ _ I1 N1 a1 e1 ⟨p, _, rfl, dis_sing x1, dis_ov (dis_sing x2) d1, ?_, rfl⟩
    rw [e3, upd_sing, ov_assoc])
/-- d[k] = v -/
theorem rp_dset {kvs : List (Int × Int)} {j : Nat} {m1 m2 : Mn S Int} {Γ' : List (Int × Int) → S → List Sl} (hj : ∀ s, (Γ s)[j]? = some (.ow (od kvs))) (h : EM K te Γ m1) (h2 : EM K tb Γ m2) (hΓ : ∀ ys s, (Γ s).set j (.ow (od ys)) = Γ' ys s) : RP (sDPut (tVar j) tb te) Γ (mb m1 fun v => mb m2 fun k => mc (decide (kvs.length < 10000)) (putI kvs k v)) Γ' := fun s I F N σ e d D q =>
  h s I F N σ e d _ (R.sat_imp (sat_mb.mp q) fun v s1 q w I1 N1 a1 d1 e1 r1 => by
    obtain ⟨a, Ma, M', g1, _⟩ := e1.foc (hj s1)
    refine ⟨_, g1, h2 s1 I1 F N1 σ e1 d1 _ (R.sat_imp (sat_mb.mp q) fun k s2 q u I2 N2 a2 d2 e2 r2 => ?_)⟩
    obtain ⟨c, q⟩ := sat_mc.mp q
    have c := of_decide_eq_true c
    obtain ⟨a', Ma', M2, g1', g2', g3', g4', g5', _⟩ := e2.foc (hj s2)
    rw [g1] at g1'
    cases g1'
    have g2'' : Ma' = sing a (.dK (kvs.map entI)) := g2'
    subst g2'' g4'
    obtain ⟨y1, y2⟩ := dis_ov_l d2
    have e1' : w = V.int v := r1
    have e2' : u = kV (Sum.inl k) := r2
    subst e1' e2'
    refine ⟨a, _, rfl, DPut.k (ov_l (ov_l sing_same)) (by rw [List.length_map]; exact Nat.lt_of_lt_of_le c (by decide)), ?_⟩
    rw [putI_eq, upd_own]
    have z1 : Dis (sing a (.dK ((putI kvs k v).map entI))) M2 := dis_sing (g3'.some_l sing_same)
    have z2 : Dis (sing a (.dK ((putI kvs k v).map entI))) I2 := dis_sing (y1.some_l sing_same)
    exact q I2 _ σ (a1.trans a2) (dis_ov z2 y2) (by rw [← hΓ]; exact g5' I2 (od (putI kvs k v)) _ (Ex.refl I2) z1 rfl))
def srtP (xs : List (Int × Int)) : List (Int × Int) := xs.mergeSort fun a b => !SrtO.lexB b a
theorem srtP_perm (xs : List (Int × Int)) : (srtP xs).Perm xs := List.mergeSort_perm _ _
theorem srtP_pw (xs : List (Int × Int)) : (srtP xs).Pairwise fun a b => SrtO.lexB b a = false := by
  have h := List.pairwise_mergeSort (le := fun a b : Int × Int => !SrtO.lexB b a) (fun a b c h1 h2 => by
    have h1 := SrtO.lexB_no.mp (by simpa using h1)
    have h2 := SrtO.lexB_no.mp (by simpa using h2)
    have : SrtO.lexB c a = false := SrtO.lexB_no.mpr (by omega)
    simp [this]) (fun a b => by
    cases h : SrtO.lexB b a with
    | false => rfl
    | true =>
      have h1 := SrtO.lexB_iff.mp h
      have : SrtO.lexB a b = false := SrtO.lexB_no.mpr (by omega)
      simp [this]) xs
  exact h.imp fun {a b} q => by simpa using q
theorem srtP_eq {xs ys : List (Int × Int)} (p : ys.Perm xs) (h : ys.Pairwise fun a b => SrtO.lexB b a = false) : ys = srtP xs :=
  List.Perm.eq_of_pairwise (fun a b _ _ h1 h2 => by
    have h1 := SrtO.lexB_no.mp h1
    have h2 := SrtO.lexB_no.mp h2
    exact Prod.ext (by omega) (by omega)) h (srtP_pw xs) (p.trans (srtP_perm xs).symm)
/-- sorted(d.items()) -/
theorem em_sortI {kvs : List (Int × Int)} {j : Nat} (hj : ∀ s, (Γ s)[j]? = some (.ow (od kvs))) : EM K (tCB DX2.rSortI (tCons (tBM0 K "dict" DX2.rItemsI (tVar j)) tNil)) Γ (mc (decide (kvs.length ≤ 10000)) (srtP kvs)) := fun s I F N σ e d Q q => by
  obtain ⟨c, q⟩ := sat_mc.mp q
  have c := of_decide_eq_true c
  obtain ⟨a, Ma, M', g1, g2, g3, g4, _⟩ := e.foc (hj s)
  have g2' : Ma = sing a (.dK (kvs.map entI)) := g2
  have hN : N a = some (.dK (kvs.map entI)) := by rw [g4, g2']; exact ov_l sing_same
  refine ⟨_, g1, .inr (.inr (.inl ⟨rfl, .inl ⟨_, ov_l hN⟩⟩)), a, _, rfl, rfl, ov_l hN, fun p hp => ?_⟩
  obtain ⟨x1, x2⟩ := ov_none hp
  have hpa : a ≠ p := fun z => by rw [z] at hN; rw [x1] at hN; cases hN
  refine ⟨p, a, kvs, rfl, upd_same, by rw [upd_ne hpa]; exact ov_l hN, c, fun H' q' zs k1 f1 f2 k2 k3 k4 k5 => ?_⟩
  have kk : ∀ b o, ov N I b = some o → H' b = some o := fun b o h => k1 b o (by rw [upd_ne (fun z => by rw [z, hp] at h; cases h)]; exact h)
  have eH : H' = ov N (fun b => match N b with | some _ => none | none => H' b) := by
    funext b
    cases hb : N b with
    | some o => rw [ov_l hb]; exact kk b o (ov_l hb)
    | none =>
      rw [ov_r hb]
      show H' b = match N b with | some _ => none | none => H' b
      rw [hb]
  have exI : Ex I (fun b => match N b with | some _ => none | none => H' b) := fun b o h => by
    have hb := d.some_r h
    show (match N b with | some _ => none | none => H' b) = some o
    rw [hb]
    exact kk b o (by rw [ov_r hb]; exact h)
  have dI : Dis N (fun b => match N b with | some _ => none | none => H' b) := fun b => by
    cases hb : N b with
    | none => exact .inl rfl
    | some o => refine .inr ?_; show (match N b with | some _ => none | none => H' b) = none; rw [hb]
  have inI : ∀ b o, H' b = some o → N b = none → (fun b => match N b with | some _ => none | none => H' b) b = some o := fun b o h hb => by
    show (match N b with | some _ => none | none => H' b) = some o
    rw [hb]
    exact h
  have off : ∀ b, upd (ov N I) p (DX.itemsO p a) b = none → N b = none := fun b h => by
    by_cases eb : b = p
    · subst eb; exact x1
    · rw [upd_ne eb] at h; exact (ov_none h).1
  have ez : zs.map (·.2) = srtP kvs := srtP_eq k2 k3
  rw [eH]
  refine q (.ref q') _ N exI dI (e.up exI) ⟨q', _, rfl, inI _ _ k4 (off _ f1), ?_⟩
  rw [← ez]
  have go : ∀ l : List (Addr × Int × Int), (∀ z ∈ l, z ∈ zs) → Rs K (l.map (·.2)) (fun b => match N b with | some _ => none | none => H' b) (l.map fun z => V.ref z.1) := fun l => by
    induction l with
    | nil => exact fun _ => .nil
    | cons z l ih =>
      intro hl
      have hz := hl z (List.mem_cons_self ..)
      exact .cons ⟨z.1, _, _, rfl, .inl (.inl (inI _ _ (k5 z hz) (off _ (f2 z hz)))), rfl, rfl⟩ (ih fun y hy => hl y (List.mem_cons_of_mem _ hy))
  exact go zs fun _ h => h
end
end Mir

/-! Mir25: what can't be, insertion -/
namespace Mir
open PySem L2
section
variable {K : PySem.W.Frag} {S α β ζ ρ τ : Type} [SH S] [Rp α] [Rp β] {Γ : S → List Sl} {Γ1 : List Sl} {te ta tb : TE} {tl : TA}
theorem rp_bad {t : TS} {Γ' : τ → S → List Sl} : RP t Γ mbad Γ' := fun s I F N σ e d D q => q.elim
theorem em_bad : EM K te Γ (mbad : Mn S α) := fun s I F N σ e d Q q => q.elim
def insOk (n : Nat) (i : Int) : Bool := decide (n < 16000000 ∧ 0 ≤ i ∧ i < 2 ^ 62)
def insL {δ : Type} (xs : List δ) (i : Int) (x : δ) : List δ := xs.take i.toNat ++ [x] ++ xs.drop i.toNat
end
theorem hu1 {k : Nat} {A : PySem.Around} (hr : Room k A) : A.units + 1 < cLine := Nat.lt_of_le_of_lt (Nat.add_le_add_left (by decide) _) (hu64 hr)
section
variable {K : PySem.W.Frag} {α β γ δ ε : Type} [Rp α] [Rp β] [Rp γ] [Rp δ] [Rp ε] {x : T5 α β γ δ ε}
theorem pr5_0 : Op2 (rIxT K) (pv K x) (pv K (0 : Int)) (pv K x.a) := o_pr fun I v ⟨a, v1, v2, v3, v4, v5, h1, h2, h3, h4, h5, h6, h7⟩ => ⟨a, _, v1, h1, h2, rfl, h3⟩
theorem pr5_1 : Op2 (rIxT K) (pv K x) (pv K (1 : Int)) (pv K x.b) := o_pr fun I v ⟨a, v1, v2, v3, v4, v5, h1, h2, h3, h4, h5, h6, h7⟩ => ⟨a, _, v2, h1, h2, rfl, h4⟩
theorem pr5_2 : Op2 (rIxT K) (pv K x) (pv K (2 : Int)) (pv K x.c) := o_pr fun I v ⟨a, v1, v2, v3, v4, v5, h1, h2, h3, h4, h5, h6, h7⟩ => ⟨a, _, v3, h1, h2, rfl, h5⟩
theorem pr5_3 : Op2 (rIxT K) (pv K x) (pv K (3 : Int)) (pv K x.d) := o_pr fun I v ⟨a, v1, v2, v3, v4, v5, h1, h2, h3, h4, h5, h6, h7⟩ => ⟨a, _, v4, h1, h2, rfl, h6⟩
theorem pr5_4 : Op2 (rIxT K) (pv K x) (pv K (4 : Int)) (pv K x.e) := o_pr fun I v ⟨a, v1, v2, v3, v4, v5, h1, h2, h3, h4, h5, h6, h7⟩ => ⟨a, _, v5, h1, h2, rfl, h7⟩
end
theorem bt_dict : bootBuiltins "dict" = some (.type "dict") := by decide +kernel
end Mir

/-! Num1: numbers by a prime; powers, inverses; sums by powers of a place -/
namespace Num
/-! ### alike by p -/
def Cg (p a b : Int) : Prop := ∃ k, a = b + p * k
section
variable {p a b c d : Int}
theorem Cg.refl : Cg p a a := ⟨0, by grind⟩
theorem Cg.of_eq (h : a = b) : Cg p a b := ⟨0, by grind⟩
theorem Cg.symm (h : Cg p a b) : Cg p b a := by obtain ⟨k, h⟩ := h; exact ⟨-k, by grind⟩
theorem Cg.trans (h : Cg p a b) (g : Cg p b c) : Cg p a c := by
  obtain ⟨k, h⟩ := h; obtain ⟨l, g⟩ := g
  exact ⟨k + l, by grind⟩
theorem Cg.add (h : Cg p a b) (g : Cg p c d) : Cg p (a + c) (b + d) := by
  obtain ⟨k, h⟩ := h; obtain ⟨l, g⟩ := g
  exact ⟨k + l, by grind⟩
theorem Cg.sub (h : Cg p a b) (g : Cg p c d) : Cg p (a - c) (b - d) := by
  obtain ⟨k, h⟩ := h; obtain ⟨l, g⟩ := g
  exact ⟨k - l, by grind⟩
theorem Cg.mul (h : Cg p a b) (g : Cg p c d) : Cg p (a * c) (b * d) := by
  obtain ⟨k, h⟩ := h; obtain ⟨l, g⟩ := g
  exact ⟨b * l + d * k + p * k * l, by grind⟩
theorem Cg.emod : Cg p (a % p) a := ⟨-(a / p), by have := Int.mul_ediv_add_emod a p; grind⟩
theorem Cg.mod (h : Cg p a b) : Cg p (a % p) b := Cg.emod.trans h
theorem Cg.em (h : Cg p a b) : a % p = b % p := by
  obtain ⟨k, h⟩ := h
  rw [h, Int.add_mul_emod_self_left]
theorem Cg.of_em (h : a % p = b % p) : Cg p a b := (Cg.emod.symm.trans (Cg.of_eq h)).trans Cg.emod
theorem Cg.eq (h : Cg p a b) (a0 : 0 ≤ a) (a1 : a < p) (b0 : 0 ≤ b) (b1 : b < p) : a = b := by
  have := h.em
  rwa [Int.emod_eq_of_lt a0 a1, Int.emod_eq_of_lt b0 b1] at this
theorem Cg.pow (h : Cg p a b) : ∀ n : Nat, Cg p (a ^ n) (b ^ n)
  | 0 => by rw [Int.pow_zero, Int.pow_zero]; exact Cg.refl
  | n + 1 => by rw [Int.pow_succ, Int.pow_succ]; exact (Cg.pow h n).mul h
theorem cg_zero : Cg p a 0 ↔ p ∣ a := ⟨fun ⟨k, h⟩ => ⟨k, by grind⟩, fun ⟨k, h⟩ => ⟨k, by grind⟩⟩
theorem Cg.sub_zero (h : Cg p (a - b) 0) : Cg p a b := by
  obtain ⟨k, h⟩ := h
  exact ⟨k, by grind⟩
end
/-! ### primes -/
def Pm (p : Int) : Prop := 2 ≤ p ∧ ∀ d, 2 ≤ d → d < p → ¬ d ∣ p
theorem Pm.pos {p : Int} (h : Pm p) : 0 < p := by have := h.1; omega
theorem Pm.gcd {p a : Int} (h : Pm p) (ha : ¬ Cg p a 0) : Int.gcd p a = 1 := by
  have h1 := Int.gcd_dvd_left (a := p) (b := a)
  have h2 := Int.gcd_dvd_right (a := p) (b := a)
  have h3 := Int.le_of_dvd h.pos h1
  have h4 : 0 < Int.gcd p a := Int.gcd_pos_of_ne_zero_left _ (by have := h.1; omega)
  by_cases e : Int.gcd p a = 1
  · exact e
  · exfalso
    by_cases e2 : (Int.gcd p a : Int) < p
    · exact h.2 _ (by omega) e2 h1
    · rw [show (Int.gcd p a : Int) = p by omega] at h2
      exact ha (cg_zero.mpr h2)
/-- of a product, one part -/
theorem Pm.mul {p a b : Int} (h : Pm p) (ha : ¬ Cg p a 0) (hb : ¬ Cg p b 0) : ¬ Cg p (a * b) 0 := fun c => by
  have c := cg_zero.mp c
  have g := h.gcd ha
  refine hb (cg_zero.mpr (Int.natAbs_dvd_natAbs.mp (Nat.Coprime.dvd_of_dvd_mul_left (m := a.natAbs) g ?_)))
  rw [← Int.natAbs_mul]
  exact Int.natAbs_dvd_natAbs.mpr c
theorem Pm.can {p a b c : Int} (h : Pm p) (ha : ¬ Cg p a 0) (e : Cg p (a * b) (a * c)) : Cg p b c := by
  by_cases q : Cg p (b - c) 0
  · exact q.sub_zero
  · exact absurd (by obtain ⟨k, e⟩ := e; exact ⟨k, by grind⟩) (h.mul ha q)
/-! ### Pascal, and powers by a prime -/
def bin : Nat → Nat → Nat
  | _, 0 => 1
  | 0, _ + 1 => 0
  | n + 1, k + 1 => bin n k + bin n (k + 1)
theorem bin_0 {n : Nat} : bin n 0 = 1 := by cases n <;> rfl
theorem bin_s {n k : Nat} : bin (n + 1) (k + 1) = bin n k + bin n (k + 1) := rfl
theorem bin_big : ∀ {n k : Nat}, n < k → bin n k = 0
  | 0, k + 1, _ => rfl
  | n + 1, k + 1, h => by rw [bin_s, bin_big (show n < k by omega), bin_big (show n < k + 1 by omega)]
theorem bin_self : ∀ {n : Nat}, bin n n = 1
  | 0 => rfl
  | n + 1 => by rw [bin_s, bin_self, bin_big (Nat.lt_succ_self n)]
theorem bin_step : ∀ {n k : Nat}, (k + 1) * bin n (k + 1) = (n - k) * bin n k
  | 0, k => by rw [show bin 0 (k + 1) = 0 from rfl, Nat.zero_sub, Nat.zero_mul, Nat.mul_zero]
  | n + 1, 0 => by
    have ih := bin_step (n := n) (k := 0)
    rw [bin_s]
    simp only [bin_0, Nat.sub_zero, Nat.mul_one, Nat.zero_add, Nat.one_mul] at ih ⊢
    omega
  | n + 1, k + 1 => by
    have i1 := bin_step (n := n) (k := k)
    have i2 := bin_step (n := n) (k := k + 1)
    rw [bin_s, bin_s (n := n) (k := k)]
    by_cases h : k + 1 ≤ n
    · obtain ⟨m, rfl⟩ : ∃ m, n = m + (k + 1) := ⟨n - (k + 1), by omega⟩
      rw [show m + (k + 1) - k = m + 1 by omega] at i1
      rw [show m + (k + 1) - (k + 1) = m by omega] at i2
      rw [show m + (k + 1) + 1 - (k + 1) = m + 1 by omega]
      grind
    · have e : bin n (k + 1) = 0 := bin_big (by omega)
      have e2 : bin n (k + 1 + 1) = 0 := bin_big (by omega)
      rw [e, e2]
      by_cases h2 : n = k
      · subst h2
        rw [show n + 1 - (n + 1) = 0 by omega]
        simp
      · rw [bin_big (show n < k by omega)]
        simp
theorem bin_top {n k : Nat} : (k + 1) * bin (n + 1) (k + 1) = (n + 1) * bin n k := by
  have h := bin_step (n := n) (k := k)
  rw [bin_s, Nat.mul_add, h]
  by_cases q : k ≤ n
  · rw [← Nat.add_mul, show k + 1 + (n - k) = n + 1 by omega]
  · rw [bin_big (show n < k by omega)]
    simp
/-- 1 and the sum of all powers -/
def bsum (n : Nat) (a : Int) : Nat → Int
  | 0 => 1
  | k + 1 => bsum n a k + bin n (k + 1) * a ^ (k + 1)
theorem bsum_s {n : Nat} {a : Int} : ∀ {k : Nat}, bsum (n + 1) a (k + 1) = bsum n a (k + 1) + a * bsum n a k
  | 0 => by
    show 1 + ((bin n 0 + bin n 1 : Nat) : Int) * a ^ 1 = 1 + (bin n 1 : Int) * a ^ 1 + a * 1
    rw [bin_0]
    grind
  | k + 1 => by
    have ih := bsum_s (n := n) (a := a) (k := k)
    show bsum (n + 1) a (k + 1) + ((bin n (k + 1) + bin n (k + 2) : Nat) : Int) * a ^ (k + 2) = bsum n a (k + 1) + (bin n (k + 2) : Int) * a ^ (k + 2) + a * (bsum n a k + (bin n (k + 1) : Int) * a ^ (k + 1))
    rw [ih]
    grind
theorem bsum_all {a : Int} : ∀ {n : Nat}, bsum n a n = (1 + a) ^ n
  | 0 => by rw [Int.pow_zero]; rfl
  | n + 1 => by
    rw [bsum_s]
    have e : bsum n a (n + 1) = bsum n a n := by
      show bsum n a n + (bin n (n + 1) : Int) * _ = _
      rw [bin_big (Nat.lt_succ_self n)]
      simp
    rw [e, bsum_all, Int.pow_succ]
    grind
theorem Pm.bin {p : Nat} (h : Pm p) {k : Nat} (h0 : 0 < k) (h1 : k < p) : Cg p (bin p k) 0 := by
  obtain ⟨m, rfl⟩ : ∃ m, p = m + 1 := ⟨p - 1, by omega⟩
  obtain ⟨i, rfl⟩ : ∃ i, k = i + 1 := ⟨k - 1, by omega⟩
  have e := bin_top (n := m) (k := i)
  by_cases q : Cg ((m + 1 : Nat) : Int) (Num.bin (m + 1) (i + 1)) 0
  · exact q
  · refine absurd ?_ (h.mul (a := ((i + 1 : Nat) : Int)) ?_ q)
    · exact ⟨Num.bin m i, by rw [← Int.natCast_mul, e, Int.natCast_mul]; grind⟩
    · intro c
      have := c.eq (by omega) (by omega) (by omega) (by omega)
      omega
theorem Pm.bsum {p : Nat} (h : Pm p) {a : Int} : ∀ {k : Nat}, k < p → Cg p (bsum p a k) 1
  | 0, _ => Cg.refl
  | k + 1, hk => by
    have := (h.bin (Nat.succ_pos k) hk).mul (Cg.refl (p := p) (a := a ^ (k + 1)))
    have := (h.bsum (a := a) (k := k) (by omega)).add this
    show Cg p (Num.bsum p a k + _) 1
    refine this.trans (Cg.of_eq ?_)
    grind
theorem Pm.fermat1 {p : Nat} (h : Pm p) : ∀ n : Nat, Cg p ((n : Int) ^ p) n
  | 0 => by
    rw [show ((0 : Nat) : Int) = 0 from rfl, Int.zero_pow (by have := h.1; omega)]
    exact Cg.refl
  | n + 1 => by
    obtain ⟨m, rfl⟩ : ∃ m, p = m + 1 := ⟨p - 1, by have := h.1; omega⟩
    have e := bsum_all (n := m + 1) (a := n)
    have b := h.bsum (a := n) (k := m) (by omega)
    have c : Cg ((m + 1 : Nat) : Int) (Num.bsum (m + 1) n (m + 1)) (1 + (n : Int) ^ (m + 1)) := by
      show Cg _ (Num.bsum (m + 1) n m + (Num.bin (m + 1) (m + 1) : Int) * _) _
      rw [bin_self]
      exact b.add (Cg.of_eq (by grind))
    rw [e] at c
    rw [show ((n + 1 : Nat) : Int) = 1 + n by omega]
    exact c.trans (Cg.refl.add (h.fermat1 n))
/-- a power that leaves 1 -/
theorem Pm.fermat {p a : Int} (h : Pm p) (ha : ¬ Cg p a 0) : Cg p (a ^ (p - 2).toNat * a) 1 := by
  obtain ⟨n, rfl⟩ : ∃ n : Nat, p = n := ⟨p.toNat, by have := h.1; omega⟩
  have h2 : 2 ≤ n := by have := h.1; omega
  have m0 := Int.emod_nonneg a (show (n : Int) ≠ 0 by omega)
  obtain ⟨b, hb⟩ : ∃ b : Nat, a % (n : Int) = b := ⟨(a % n).toNat, by omega⟩
  have hab : Cg n a b := by rw [← hb]; exact Cg.emod.symm
  have f := (hab.pow n).trans ((h.fermat1 b).trans hab.symm)
  refine h.can ha ?_
  refine (Cg.of_eq ?_).trans (f.trans (Cg.of_eq (Int.mul_one a).symm))
  obtain ⟨m, rfl⟩ : ∃ m, n = m + 2 := ⟨n - 2, by omega⟩
  rw [show (((m + 2 : Nat) : Int) - 2).toNat = m by omega, Int.pow_succ, Int.pow_succ]
  grind
end Num

/-! Num2: sums by powers of a place; the data through points, and that there is one only -/
namespace Num
def ev (x : Int) : List Int → Int
  | [] => 0
  | c :: cs => c + x * ev x cs
theorem ev_app {x : Int} : ∀ {a b : List Int}, ev x (a ++ b) = ev x a + x ^ a.length * ev x b
  | [], b => by rw [List.nil_append, List.length_nil, Int.pow_zero]; show _ = 0 + _; grind
  | c :: a, b => by
    rw [List.cons_append, List.length_cons, Int.pow_succ]
    show c + x * ev x (a ++ b) = c + x * ev x a + _
    rw [ev_app]
    grind
theorem ev_snoc0 {x : Int} {a : List Int} : ev x (a ++ [0]) = ev x a := by
  rw [ev_app]
  show _ + _ * (0 + x * 0) = _
  grind
def In (p : Int) (cs : List Int) : Prop := ∀ c ∈ cs, 0 ≤ c ∧ c < p
/-- a sum of two lists, item by item -/
theorem ev_zip {p k y : Int} {g : Int × Int → Int} (hg : ∀ a b, Cg p (g (a, b)) (a + k * b)) : ∀ {as bs : List Int}, as.length = bs.length → Cg p (ev y ((as.zip bs).map g)) (ev y as + k * ev y bs)
  | [], [], _ => Cg.of_eq (by show (0 : Int) = 0 + k * 0; grind)
  | a :: as, b :: bs, h => by
    have ih := ev_zip hg (y := y) (as := as) (bs := bs) (by simpa using h)
    show Cg p (g (a, b) + y * ev y ((as.zip bs).map g)) (a + y * ev y as + k * (b + y * ev y bs))
    exact ((hg a b).add (Cg.refl.mul ih)).trans (Cg.of_eq (by grind))
/-! ### what divides -/
def quo (x : Int) : List Int → List Int
  | [] => []
  | [_] => []
  | _ :: d :: ds => ev x (d :: ds) :: quo x (d :: ds)
theorem quo_len {x : Int} : ∀ {cs : List Int}, (quo x cs).length = cs.length - 1
  | [] => rfl
  | [_] => rfl
  | _ :: d :: ds => by
    show (quo x (d :: ds)).length + 1 = ds.length + 1 + 1 - 1
    rw [quo_len]
    simp
theorem ev_quo {x y : Int} : ∀ {cs : List Int}, ev y cs = ev x cs + (y - x) * ev y (quo x cs)
  | [] => by show (0 : Int) = 0 + (y - x) * 0; grind
  | [c] => by show c + y * 0 = c + x * 0 + (y - x) * 0; grind
  | c :: d :: ds => by
    have ih := ev_quo (x := x) (y := y) (cs := d :: ds)
    show c + y * ev y (d :: ds) = c + x * ev x (d :: ds) + (y - x) * (ev x (d :: ds) + y * ev y (quo x (d :: ds)))
    generalize ev y (d :: ds) = e at *
    grind
theorem quo_zero {p x : Int} : ∀ {cs : List Int}, Cg p (ev x cs) 0 → (∀ q ∈ quo x cs, Cg p q 0) → ∀ c ∈ cs, Cg p c 0
  | [], _, _ => fun c h => nomatch h
  | [c], h, _ => fun c' h' => by
    rw [List.mem_singleton] at h'
    subst h'
    exact (Cg.of_eq (by show c' = c' + x * 0; grind)).trans h
  | c :: d :: ds, h, hq => by
    have h1 : Cg p (ev x (d :: ds)) 0 := hq _ (List.mem_cons_self ..)
    have ih := quo_zero h1 fun q hm => hq q (List.mem_cons_of_mem _ hm)
    have h2 : Cg p (c + x * ev x (d :: ds)) 0 := h
    have h3 : Cg p c 0 := by
      obtain ⟨k, h1⟩ := h1
      obtain ⟨l, h2⟩ := h2
      exact ⟨l - x * k, by grind⟩
    intro c' hm
    rcases List.mem_cons.mp hm with rfl | hm
    · exact h3
    · exact ih c' hm
/-- no more places without a rest than places in all -/
theorem all_zero {p : Int} (hp : Pm p) : ∀ {xs : List Int} {cs : List Int}, cs.length ≤ xs.length → xs.Pairwise (fun a b => ¬ Cg p a b) → (∀ x ∈ xs, Cg p (ev x cs) 0) → ∀ c ∈ cs, Cg p c 0
  | [], cs, h, _, _ => by
    cases cs with
    | nil => exact fun c h => nomatch h
    | cons a b => exact absurd h (by simp)
  | x :: xs, cs, h, hn, hz => by
    have hx := hz x (List.mem_cons_self ..)
    refine quo_zero hx (all_zero hp (xs := xs) ?_ (List.pairwise_cons.mp hn).2 fun y hy => ?_)
    · rw [quo_len]
      rw [List.length_cons] at h
      omega
    · have hxy : ¬ Cg p (y - x) 0 := fun c => (List.pairwise_cons.mp hn).1 y hy c.sub_zero.symm
      have e := ev_quo (x := x) (y := y) (cs := cs)
      have h1 := hz y (List.mem_cons_of_mem _ hy)
      by_cases q : Cg p (ev y (quo x cs)) 0
      · exact q
      · refine absurd ?_ (hp.mul hxy q)
        rw [e] at h1
        obtain ⟨k, h1⟩ := h1
        obtain ⟨l, hx⟩ := hx
        exact ⟨k - l, by grind⟩
theorem ev_diff {x : Int} : ∀ {as bs : List Int}, as.length = bs.length → ev x ((as.zip bs).map fun q => q.1 - q.2) = ev x as - ev x bs
  | [], [], _ => by show (0 : Int) = 0 - 0; rfl
  | a :: as, b :: bs, h => by
    have ih := ev_diff (x := x) (as := as) (bs := bs) (by simpa using h)
    show (a - b) + x * ev x ((as.zip bs).map fun q => q.1 - q.2) = a + x * ev x as - (b + x * ev x bs)
    rw [ih]
    grind
theorem eq_of_diff {p : Int} : ∀ {as bs : List Int}, as.length = bs.length → In p as → In p bs → (∀ c ∈ (as.zip bs).map (fun q => q.1 - q.2), Cg p c 0) → as = bs
  | [], [], _, _, _, _ => rfl
  | a :: as, b :: bs, h, ha, hb, hz => by
    have h1 := (hz (a - b) (List.mem_cons_self ..)).sub_zero
    have ia := ha a (List.mem_cons_self ..)
    have ib := hb b (List.mem_cons_self ..)
    rw [h1.eq ia.1 ia.2 ib.1 ib.2, eq_of_diff (as := as) (bs := bs) (by simpa using h) (fun c h => ha c (List.mem_cons_of_mem _ h)) (fun c h => hb c (List.mem_cons_of_mem _ h)) fun c h => hz c (List.mem_cons_of_mem _ h)]
/-- one list only has given sums at places enough -/
theorem one_only {p : Int} (hp : Pm p) {xs as bs : List Int} (hl : as.length = bs.length) (hx : as.length ≤ xs.length) (hn : xs.Pairwise (fun a b => ¬ Cg p a b)) (ha : In p as) (hb : In p bs) (he : ∀ x ∈ xs, Cg p (ev x as) (ev x bs)) : as = bs := by
  refine eq_of_diff hl ha hb (all_zero hp (xs := xs) ?_ hn fun x hm => ?_)
  · rw [List.length_map, List.length_zip, ← hl, Nat.min_self]
    exact hx
  · rw [ev_diff hl]
    exact ((he x hm).sub Cg.refl).trans (Cg.of_eq (by grind))
/-! ### the data through points, one by one -/
structure Thr (p : Int) (pts : List (Int × Int)) (F B : List Int) : Prop where
  fl : F.length = pts.length
  bl : B.length = pts.length + 1
  fi : In p F
  bi : In p B
  fe : ∀ q ∈ pts, Cg p (ev q.1 F) q.2
  be : ∀ q ∈ pts, Cg p (ev q.1 B) 0
  bn : ∀ x, (∀ q ∈ pts, ¬ Cg p x q.1) → ¬ Cg p (ev x B) 0
theorem Thr.nil {p : Int} (hp : Pm p) : Thr p [] [] [1] where
  fl := rfl
  bl := rfl
  fi := fun c h => nomatch h
  bi := fun c h => by rw [List.mem_singleton] at h; subst h; have := hp.1; omega
  fe := fun q h => nomatch h
  be := fun q h => nomatch h
  bn := fun x _ => by
    show ¬ Cg p (1 + x * 0) 0
    intro c
    have := hp.1
    have := c.eq (by omega) (by omega) (by omega) (by omega)
    omega
def stepF (p f : Int) (F B : List Int) : List Int := ((F ++ [0]).zip B).map fun (a : Int × Int) => (a.1 + f * a.2) % p
def stepB (p x : Int) (B : List Int) : List Int := ((0 :: B).zip (B ++ [0])).map fun (a : Int × Int) => (a.1 - x * a.2) % p
theorem in_map {p : Int} (hp : 0 < p) {α : Type} {g : α → Int} {xs : List α} : In p (xs.map fun a => g a % p) := fun c h => by
  obtain ⟨a, _, rfl⟩ := List.mem_map.mp h
  exact ⟨Int.emod_nonneg _ (by omega), Int.emod_lt_of_pos _ hp⟩
theorem Thr.step {p x y : Int} {pts : List (Int × Int)} {F B : List Int} (hp : Pm p) (h : Thr p pts F B) (hx : ∀ q ∈ pts, ¬ Cg p x q.1) {f : Int} (hf : Cg p (f * ev x B) (y - ev x F)) : Thr p (pts ++ [(x, y)]) (stepF p f F B) (stepB p x B) := by
  have l1 : (F ++ [0]).length = B.length := by rw [List.length_append, h.fl, h.bl]; rfl
  have l2 : (0 :: B).length = (B ++ [0]).length := by rw [List.length_append]; rfl
  have eF : ∀ z, Cg p (ev z (stepF p f F B)) (ev z F + f * ev z B) := fun z => by
    have := ev_zip (p := p) (k := f) (y := z) (g := fun a => (a.1 + f * a.2) % p) (fun a b => Cg.emod) l1
    rwa [ev_snoc0] at this
  have eB : ∀ z, Cg p (ev z (stepB p x B)) ((z - x) * ev z B) := fun z => by
    have := ev_zip (p := p) (k := -x) (y := z) (g := fun a => (a.1 - x * a.2) % p) (fun a b => Cg.emod.trans (Cg.of_eq (by grind))) l2
    rw [ev_snoc0] at this
    refine this.trans (Cg.of_eq ?_)
    show 0 + z * ev z B + -x * ev z B = _
    grind
  refine ⟨?_, ?_, in_map hp.pos, in_map hp.pos, ?_, ?_, ?_⟩
  · unfold stepF
    rw [List.length_map, List.length_zip, l1, Nat.min_self, h.bl, List.length_append]
    rfl
  · unfold stepB
    rw [List.length_map, List.length_zip, ← l2, Nat.min_self, List.length_cons, h.bl, List.length_append]
    rfl
  · intro q hq
    refine (eF q.1).trans ?_
    rcases List.mem_append.mp hq with hq | hq
    · exact ((h.fe q hq).add (Cg.refl.mul (h.be q hq))).trans (Cg.of_eq (by grind))
    · rw [List.mem_singleton] at hq
      subst hq
      exact (Cg.refl.add hf).trans (Cg.of_eq (by show ev x F + (y - ev x F) = y; grind))
  · intro q hq
    refine (eB q.1).trans ?_
    rcases List.mem_append.mp hq with hq | hq
    · exact (Cg.refl.mul (h.be q hq)).trans (Cg.of_eq (by grind))
    · rw [List.mem_singleton] at hq
      subst hq
      exact Cg.of_eq (by show (x - x) * _ = 0; grind)
  · intro z hz c
    have c := (eB z).symm.trans c
    refine hp.mul ?_ (h.bn z fun q hq => hz q (List.mem_append_left _ hq)) c
    intro c
    exact hz (x, y) (List.mem_append_right _ (List.mem_singleton.mpr rfl)) c.sub_zero
end Num

/-! Num3: figures; lots by their numbers; disks that are lost -/
namespace Num
open Mir
def val (p x : Int) (cs : List Int) : Int := cs.foldr (fun a t => (t * x + a) % p) 0
theorem val_ev {p x : Int} : ∀ {cs : List Int}, val p x cs = ev x cs % p
  | [] => by show (0 : Int) = 0 % p; simp
  | c :: cs => by
    show (val p x cs * x + c) % p = (c + x * ev x cs) % p
    rw [val_ev]
    refine Cg.em ?_
    exact ((Cg.emod.mul Cg.refl).add Cg.refl).trans (Cg.of_eq (by grind))
def digs (p : Int) : Nat → Int → List Int
  | 0, _ => []
  | j + 1, n => n % p :: digs p j (n / p)
theorem digs_len {p : Int} : ∀ {j : Nat} {n : Int}, (digs p j n).length = j
  | 0, _ => rfl
  | j + 1, n => by show (digs p j (n / p)).length + 1 = _; rw [digs_len]
theorem digs_in {p : Int} (hp : 0 < p) : ∀ {j : Nat} {n : Int}, In p (digs p j n)
  | 0, _ => fun c h => nomatch h
  | j + 1, n => fun c h => by
    rcases List.mem_cons.mp h with rfl | h
    · exact ⟨Int.emod_nonneg _ (by omega), Int.emod_lt_of_pos _ hp⟩
    · exact digs_in hp c h
theorem ev_digs {p : Int} (hp : 0 < p) : ∀ {j : Nat} {n : Int}, 0 ≤ n → n < p ^ j → ev p (digs p j n) = n
  | 0, n, h0, h1 => by rw [Int.pow_zero] at h1; show (0 : Int) = n; omega
  | j + 1, n, h0, h1 => by
    have h2 : n / p < p ^ j := Int.ediv_lt_of_lt_mul hp (by rw [Int.pow_succ] at h1; exact h1)
    show n % p + p * ev p (digs p j (n / p)) = n
    rw [ev_digs hp (Int.ediv_nonneg h0 (by omega)) h2]
    have := Int.mul_ediv_add_emod n p
    omega
/-! ### lots -/
def lotAt : Nat → Nat → Int → Int → List Int
  | 0, _, _, _ => []
  | _ + 1, 0, _, _ => []
  | m + 1, k + 1, r, n => if n < (bin m k : Int) then r :: lotAt m k (r + 1) n else lotAt m (k + 1) (r + 1) (n - bin m k)
theorem lot_k0 : ∀ {m : Nat} {r n : Int}, lotAt m 0 r n = []
  | 0, _, _ => rfl
  | _ + 1, _, _ => rfl
theorem lot_facts : ∀ {m k : Nat} {r n : Int}, 0 ≤ n → n < bin m k → (lotAt m k r n).length = k ∧ (∀ x ∈ lotAt m k r n, r ≤ x ∧ x < r + m) ∧ (lotAt m k r n).Pairwise (· < ·)
  | 0, 0, _, _, _, _ => ⟨rfl, fun x h => (nomatch h), .nil⟩
  | 0, k + 1, _, n, h0, h1 => absurd h1 (by show ¬ n < ((0 : Nat) : Int); omega)
  | m + 1, 0, _, _, _, _ => ⟨rfl, fun x h => (nomatch h), .nil⟩
  | m + 1, k + 1, r, n, h0, h1 => by
    have h1 : n < ((bin m k + bin m (k + 1) : Nat) : Int) := h1
    unfold lotAt
    split
    · rename_i c
      obtain ⟨a, b, d⟩ := lot_facts (m := m) (k := k) (r := r + 1) h0 c
      refine ⟨by rw [List.length_cons, a], fun x hx => ?_, .cons (fun x hx => ?_) d⟩
      · rcases List.mem_cons.mp hx with rfl | hx
        · omega
        · have := b x hx; omega
      · have := b x hx; omega
    · obtain ⟨a, b, d⟩ := lot_facts (m := m) (k := k + 1) (r := r + 1) (n := n - bin m k) (by omega) (by omega)
      exact ⟨a, fun x hx => by have := b x hx; omega, d⟩
theorem bin_pos : ∀ {m k : Nat}, k ≤ m → 0 < bin m k
  | 0, 0, _ => by decide
  | m + 1, 0, _ => by rw [bin_0]; decide
  | m + 1, k + 1, h => by
    have := bin_pos (m := m) (k := k) (by omega)
    rw [bin_s]
    omega
theorem lot_first : ∀ {m k : Nat} {r : Int}, k ≤ m → lotAt m k r 0 = rng r k
  | 0, 0, _, _ => rfl
  | m + 1, 0, _, _ => rfl
  | m + 1, k + 1, r, h => by
    unfold lotAt
    have : 0 < bin m k := bin_pos (by omega)
    rw [if_pos (by omega), lot_first (by omega), rng_succ]
theorem bin_le : ∀ {n k : Nat}, bin n k ≤ 2 ^ n
  | n, 0 => by rw [bin_0]; exact Nat.pos_of_ne_zero (by simp)
  | 0, k + 1 => Nat.zero_le _
  | n + 1, k + 1 => by
    have h1 := bin_le (n := n) (k := k)
    have h2 := bin_le (n := n) (k := k + 1)
    rw [bin_s, Nat.pow_succ]
    omega
/-! ### disks that are lost -/
theorem cnt_mod {n : Nat} {g : Int} (hn : 0 < n) (h0 : 0 ≤ g) (h1 : g < n) (c : Nat) : ((rng 0 (n * c)).filter fun x => x % (n : Int) = g).length ≤ c := by
  induction c with
  | zero => simp [rng_zero]
  | succ c ih =>
    rw [Nat.mul_succ, rng_add, List.filter_append, List.length_append]
    have : ((rng (0 + ((n * c : Nat) : Int)) n).filter fun x => x % (n : Int) = g).length ≤ 1 := by
      have e : ∀ x ∈ rng (0 + ((n * c : Nat) : Int)) n, (decide (x % (n : Int) = g)) = decide (x = n * c + g) := fun x hx => by
        have hx := mem_rng.mp hx
        rw [Int.natCast_mul] at hx
        have hd := Int.mul_ediv_add_emod x n
        have hq : x / n = c := (Int.ediv_eq_iff_of_pos (by omega)).mpr ⟨by rw [Int.mul_comm]; omega, by rw [Int.mul_comm]; omega⟩
        by_cases q : x = n * c + g
        · rw [decide_eq_true q, decide_eq_true]
          rw [q, Int.mul_add_emod_self_left, Int.emod_eq_of_lt h0 h1]
        · rw [decide_eq_false q, decide_eq_false]
          intro q2
          rw [q2, hq] at hd
          omega
      rw [List.filter_congr e]
      have pw := rng_pw (a := 0 + ((n * c : Nat) : Int)) (n := n)
      have pf := pw.filter (fun x => decide (x = n * c + g))
      have hm : ∀ x ∈ (rng (0 + ((n * c : Nat) : Int)) n).filter (fun x => decide (x = n * c + g)), x = n * c + g := fun x hx => of_decide_eq_true (List.mem_filter.mp hx).2
      revert pf hm
      generalize (rng (0 + ((n * c : Nat) : Int)) n).filter (fun x => decide (x = n * c + g)) = l
      intro pf hm
      match l, pf, hm with
      | [], _, _ => simp
      | [_], _, _ => simp
      | a :: b :: l, pf, hm =>
        exfalso
        have h1 := (List.pairwise_cons.mp pf).1 b (List.mem_cons_self ..)
        have h2 := hm a (List.mem_cons_self ..)
        have h3 := hm b (List.mem_cons_of_mem _ (List.mem_cons_self ..))
        omega
    omega
theorem filter_cons_len {α : Type} {p q r : α → Bool} (h : ∀ x, r x = true → p x = true ∨ q x = true) : ∀ xs : List α, (xs.filter r).length ≤ (xs.filter p).length + (xs.filter q).length
  | [] => by simp
  | x :: xs => by
    have ih := filter_cons_len h xs
    have hx := h x
    rw [List.filter_cons, List.filter_cons, List.filter_cons]
    cases e1 : r x <;> cases e2 : p x <;> cases e3 : q x <;> simp only [e1, e2, e3, if_true, if_false, List.length_cons, Bool.false_eq_true] at * <;> first | omega | (exfalso; simp at hx)
theorem filter_not_len {α : Type} {p : α → Bool} : ∀ xs : List α, (xs.filter p).length + (xs.filter fun x => !p x).length = xs.length
  | [] => rfl
  | x :: xs => by
    have ih := filter_not_len (p := p) xs
    rw [List.filter_cons, List.filter_cons]
    cases e : p x <;> simp [e] <;> omega
theorem gone_len {n c : Nat} (hn : 0 < n) {h : Nat} (hh : h ≤ n * c) : ∀ {gone : List Int}, (∀ g ∈ gone, 0 ≤ g ∧ g < n) → ((rng 0 h).filter fun x => decide (x % (n : Int) ∈ gone)).length ≤ gone.length * c
  | [], _ => by simp
  | g :: gone, hg => by
    have ih := gone_len hn hh (gone := gone) fun x hx => hg x (List.mem_cons_of_mem _ hx)
    have h1 := filter_cons_len (p := fun x => decide (x % (n : Int) = g)) (q := fun x => decide (x % (n : Int) ∈ gone)) (r := fun x => decide (x % (n : Int) ∈ g :: gone)) (fun x hx => by
      have hx := of_decide_eq_true hx
      rcases List.mem_cons.mp hx with q | q
      · exact .inl (decide_eq_true q)
      · exact .inr (decide_eq_true q)) (rng 0 h)
    have ⟨g0, g1⟩ := hg g (List.mem_cons_self ..)
    have h2 := cnt_mod hn g0 g1 c
    have h3 : ((rng 0 h).filter fun x => x % (n : Int) = g).length ≤ ((rng 0 (n * c)).filter fun x => x % (n : Int) = g).length := by
      obtain ⟨y, hy⟩ : ∃ y, n * c = h + y := ⟨n * c - h, by omega⟩
      rw [hy, rng_add, List.filter_append, List.length_append]
      omega
    rw [List.length_cons, Nat.add_mul, Nat.one_mul]
    omega
/-- of s + f * c heads, dealt to n disks in turn, s at least are left -/
theorem left_len {n f s c : Nat} (hn : f < n) (hc : s ≤ (n - f) * c) {gone : List Int} (hl : gone.length ≤ f) (hg : ∀ g ∈ gone, 0 ≤ g ∧ g < n) : s ≤ ((rng 0 (s + f * c)).filter fun x => !decide (x % (n : Int) ∈ gone)).length := by
  have h1 : s + f * c ≤ n * c := by
    obtain ⟨d, rfl⟩ : ∃ d, n = d + f := ⟨n - f, by omega⟩
    rw [Nat.add_sub_cancel] at hc
    rw [Nat.add_mul]
    omega
  have h2 := gone_len (by omega) h1 hg
  have h3 := filter_not_len (p := fun x => decide (x % (n : Int) ∈ gone)) (rng 0 (s + f * c))
  have h4 : gone.length * c ≤ f * c := Nat.mul_le_mul_right _ hl
  have h5 : (rng 0 (s + f * c)).length = s + f * c := by rw [rng_len]
  omega
end Num

/-! Num4: views of heads that a cut leaves; their mending -/
namespace Num
open Mir
def mk (hs : List Int) (c : Int → Int) : List (Int × Int) := hs.map fun i => (i, c i)
def Srt (hs : List Int) : Prop := hs.Pairwise (· < ·)
theorem Srt.filter {hs : List Int} (h : Srt hs) (p : Int → Bool) : Srt (hs.filter p) := List.Pairwise.filter p h
theorem Srt.take {hs : List Int} (h : Srt hs) (n : Nat) : Srt (hs.take n) := List.Pairwise.sublist (List.take_sublist n hs) h
theorem Srt.nodup {hs : List Int} (h : Srt hs) : hs.Nodup := List.Pairwise.imp (fun {a b} (q : a < b) => by omega) h
theorem mk_len {hs : List Int} {c : Int → Int} : (mk hs c).length = hs.length := List.length_map ..
theorem mk_fst {hs : List Int} {c : Int → Int} : (mk hs c).map (fun a => a.1) = hs := by
  unfold mk
  rw [List.map_map]
  exact List.map_id' hs
theorem mk_take {hs : List Int} {c : Int → Int} (n : Nat) : (mk hs c).take n = mk (hs.take n) c := (List.map_take ..).symm
theorem mk_filter {hs : List Int} {c : Int → Int} {p : Int × Int → Bool} : (mk hs c).filter p = mk (hs.filter fun i => p (i, c i)) c := List.filter_map ..
theorem mk_congr {hs : List Int} {c c' : Int → Int} (h : ∀ i ∈ hs, c i = c' i) : mk hs c = mk hs c' := List.map_congr_left fun i hi => by rw [h i hi]
theorem mk_map {β : Type} {hs : List Int} {c : Int → Int} {f : Int × Int → β} : (mk hs c).map f = hs.map fun i => f (i, c i) := List.map_map ..
theorem mk_mem {hs : List Int} {c : Int → Int} {a : Int × Int} : a ∈ mk hs c ↔ a.1 ∈ hs ∧ a.2 = c a.1 := by
  unfold mk
  rw [List.mem_map]
  exact ⟨fun ⟨i, h, e⟩ => by subst e; exact ⟨h, rfl⟩, fun ⟨h, e⟩ => ⟨a.1, h, by rw [← e]⟩⟩
/-- heads below t are right, above it 0 -/
def Cut (hs : List Int) (c w : Int → Int) (t : Int) : Prop := ∀ i ∈ hs, (i < t → c i = w i) ∧ (t < i → c i = 0)
theorem Cut.sub {hs hs' : List Int} {c w : Int → Int} {t : Int} (h : Cut hs c w t) (s : ∀ i ∈ hs', i ∈ hs) : Cut hs' c w t := fun i hi => h i (s i hi)
theorem Cut.congr {hs : List Int} {c c' w : Int → Int} {t : Int} (h : Cut hs c w t) (e : ∀ i ∈ hs, c i = c' i) : Cut hs c' w t := fun i hi => by rw [← e i hi]; exact h i hi
def nz (hs : List Int) (c : Int → Int) : Nat := (hs.filter fun i => !decide (c i = 0)).length
theorem nz_cons {i : Int} {hs : List Int} {c : Int → Int} : nz (i :: hs) c = (if c i = 0 then 0 else 1) + nz hs c := by
  unfold nz
  rw [List.filter_cons]
  by_cases e : c i = 0
  · rw [if_pos e, decide_eq_true e]; simp
  · rw [if_neg e, decide_eq_false e]; simp; omega
theorem nz_zero {hs : List Int} {c : Int → Int} (h : ∀ i ∈ hs, c i = 0) : nz hs c = 0 := by
  unfold nz
  rw [List.filter_eq_nil_iff.mpr fun i hi => by simp [h i hi]]
  rfl
theorem nz_mono {hs : List Int} {c c' : Int → Int} (h : ∀ i ∈ hs, c i = 0 → c' i = 0) : nz hs c' ≤ nz hs c := by
  induction hs with
  | nil => exact Nat.le_refl _
  | cons i hs ih =>
    have := ih fun x hx => h x (List.mem_cons_of_mem _ hx)
    have h1 := h i (List.mem_cons_self ..)
    rw [nz_cons, nz_cons]
    by_cases e : c i = 0
    · rw [if_pos e, if_pos (h1 e)]; omega
    · rw [if_neg e]; split <;> omega
theorem nz_filter {hs : List Int} {c : Int → Int} (p : Int → Bool) : nz (hs.filter p) c ≤ nz hs c := by
  unfold nz
  exact (List.Sublist.filter _ List.filter_sublist).length_le
theorem Cut.rest {i : Int} {hs : List Int} {c w : Int → Int} {t : Int} (s : Srt (i :: hs)) (h : Cut (i :: hs) c w t) (hw : w i ≠ 0) (e : c i = 0) : ∀ x ∈ hs, c x = 0 := fun x hx => by
  have h1 := List.rel_of_pairwise_cons s hx
  have h2 := (h i (List.mem_cons_self ..)).1
  by_cases q : i < t
  · exact absurd ((h2 q).symm.trans e) hw
  · exact (h x (List.mem_cons_of_mem _ hx)).2 (by omega)
/-- none of the first n is 0 -/
theorem Cut.first {t : Int} {c w : Int → Int} : ∀ {hs : List Int} {n : Nat}, Srt hs → Cut hs c w t → (∀ i ∈ hs, w i ≠ 0) → n ≤ hs.length → ((∀ i ∈ hs.take n, c i ≠ 0) ↔ n ≤ nz hs c)
  | [], n, _, _, _, hn => by
    have : n = 0 := by simpa using hn
    subst this
    simp
  | i :: hs, 0, _, _, _, _ => by simp
  | i :: hs, n + 1, s, h, hw, hn => by
    have ih := Cut.first (hs := hs) (n := n) (List.pairwise_cons.mp s).2 (h.sub fun x hx => List.mem_cons_of_mem _ hx) (fun x hx => hw x (List.mem_cons_of_mem _ hx)) (by simpa using hn)
    rw [nz_cons, List.take_succ_cons]
    by_cases e : c i = 0
    · rw [if_pos e, nz_zero (h.rest s (hw i (List.mem_cons_self ..)) e)]
      exact ⟨fun q => absurd e (q i (List.mem_cons_self ..)), fun q => by omega⟩
    · rw [if_neg e]
      constructor
      · intro q
        have := ih.mp fun x hx => q x (List.mem_cons_of_mem _ hx)
        omega
      · intro q x hx
        rcases List.mem_cons.mp hx with rfl | hx
        · exact e
        · exact ih.mpr (by omega) x hx
/-- then all but the last of them are right -/
theorem Cut.right {t : Int} {c w : Int → Int} : ∀ {hs : List Int} {n : Nat}, Srt hs → Cut hs c w t → n + 1 ≤ hs.length → (∀ i ∈ hs.take (n + 1), c i ≠ 0) → ∀ i ∈ hs.take n, c i = w i
  | hs, 0, _, _, _, _ => by simp
  | [], n + 1, _, _, hn, _ => by simp
  | [i], n + 1, _, _, hn, _ => by simp at hn
  | i :: i2 :: hs, n + 1, s, h, hn, hz => by
    intro x hx
    rw [List.take_succ_cons] at hx hz
    rcases List.mem_cons.mp hx with rfl | hx
    · have h1 := List.rel_of_pairwise_cons s (List.mem_cons_self (a := i2) (l := hs))
      have h2 := (h i2 (List.mem_cons_of_mem _ (List.mem_cons_self ..))).2
      have h3 := hz i2 (by rw [List.take_succ_cons]; exact List.mem_cons_of_mem _ (List.mem_cons_self ..))
      refine (h x (List.mem_cons_self ..)).1 ?_
      by_cases q : t < i2
      · exact absurd (h2 q) h3
      · omega
    · exact Cut.right (hs := i2 :: hs) (List.pairwise_cons.mp s).2 (h.sub fun x hx => List.mem_cons_of_mem _ hx) (by simpa using hn) (fun y hy => hz y (List.mem_cons_of_mem _ hy)) x hx
/-! ### mending -/
/-- the heads that are written -/
def wr (hs : List Int) (c w : Int → Int) (due : Bool) : List Int := if due = true then hs.filter fun i => !decide (c i = w i) else hs.reverse.filter fun i => !decide (c i = 0)
def wto (w : Int → Int) (due : Bool) (i : Int) : Int := if due = true then w i else 0
/-- the first writes are done -/
def done (c : Int → Int) (L : List Int) (u : Int → Int) (i : Int) : Int := if i ∈ L then u i else c i
theorem done_nil {c u : Int → Int} : done c [] u = c := funext fun i => if_neg (fun h => nomatch h)
theorem done_cons {c u : Int → Int} {x : Int} {L : List Int} : done (fun i => if i = x then u x else c i) L u = done c (x :: L) u := funext fun i => by
  unfold done
  by_cases h : i ∈ L
  · rw [if_pos h, if_pos (List.mem_cons_of_mem _ h)]
  · rw [if_neg h]
    show (if i = x then u x else c i) = _
    by_cases e : i = x
    · subst e
      rw [if_pos rfl, if_pos (List.mem_cons_self ..)]
    · rw [if_neg e, if_neg]
      intro q
      rcases List.mem_cons.mp q with q | q
      · exact e q
      · exact h q
section
variable {hs : List Int} {c w : Int → Int} {t : Int}
theorem wr_mem {due : Bool} {i : Int} (h : i ∈ wr hs c w due) : i ∈ hs := by
  unfold wr at h
  split at h
  · exact (List.mem_filter.mp h).1
  · exact List.mem_reverse.mp (List.mem_filter.mp h).1
theorem Cut.torn_due (s : Srt hs) (h : Cut hs c w t) {A B : List Int} {x : Int} (e : wr hs c w true = A ++ x :: B) (y : Int) : Cut hs (fun i => if i = x then y else done c A w i) w x := by
  have e : hs.filter (fun i => !decide (c i = w i)) = A ++ x :: B := e
  have sf := s.filter (fun i => !decide (c i = w i))
  rw [e] at sf
  have sf := List.pairwise_append.mp sf
  have hx : x ∈ hs.filter (fun i => !decide (c i = w i)) := by rw [e]; simp
  have hx := List.mem_filter.mp hx
  have hxw : c x ≠ w x := by simpa using hx.2
  have hxt : t ≤ x := by
    by_cases q : x < t
    · exact absurd ((h x hx.1).1 q) hxw
    · omega
  intro i hi
  refine ⟨fun hlt => ?_, fun hlt => ?_⟩
  · dsimp only
    rw [if_neg (by omega)]
    unfold done
    by_cases q : i ∈ A
    · rw [if_pos q]
    · rw [if_neg q]
      by_cases q2 : c i = w i
      · exact q2
      · exfalso
        have : i ∈ A ++ x :: B := by rw [← e]; exact List.mem_filter.mpr ⟨hi, by simpa using q2⟩
        rcases List.mem_append.mp this with q3 | q3
        · exact q q3
        · rcases List.mem_cons.mp q3 with q3 | q3
          · omega
          · have := (List.pairwise_cons.mp sf.2.1).1 i q3
            omega
  · dsimp only
    rw [if_neg (by omega)]
    unfold done
    rw [if_neg fun q => by have := sf.2.2 i q x (List.mem_cons_self ..); omega]
    exact (h i hi).2 (by omega)
theorem Cut.torn_not (s : Srt hs) (h : Cut hs c w t) {A B : List Int} {x : Int} (e : wr hs c w false = A ++ x :: B) (y : Int) : Cut hs (fun i => if i = x then y else done c A (fun _ => 0) i) w x := by
  have e : hs.reverse.filter (fun i => !decide (c i = 0)) = A ++ x :: B := e
  have sf : (hs.reverse.filter (fun i => !decide (c i = 0))).Pairwise (fun a b => b < a) := List.Pairwise.filter _ (List.pairwise_reverse.mpr s)
  rw [e] at sf
  have sf := List.pairwise_append.mp sf
  have hx : x ∈ hs.reverse.filter (fun i => !decide (c i = 0)) := by rw [e]; simp
  have hx := List.mem_filter.mp hx
  have hxw : c x ≠ 0 := by simpa using hx.2
  have hxt : x ≤ t := by
    by_cases q : t < x
    · exact absurd ((h x (List.mem_reverse.mp hx.1)).2 q) hxw
    · omega
  intro i hi
  refine ⟨fun hlt => ?_, fun hlt => ?_⟩
  · dsimp only
    rw [if_neg (by omega)]
    unfold done
    rw [if_neg fun q => by have := sf.2.2 i q x (List.mem_cons_self ..); omega]
    exact (h i hi).1 (by omega)
  · dsimp only
    rw [if_neg (by omega)]
    unfold done
    by_cases q : i ∈ A
    · rw [if_pos q]
    · rw [if_neg q]
      by_cases q2 : c i = 0
      · exact q2
      · exfalso
        have : i ∈ A ++ x :: B := by rw [← e]; exact List.mem_filter.mpr ⟨List.mem_reverse.mpr hi, by simpa using q2⟩
        rcases List.mem_append.mp this with q3 | q3
        · exact q q3
        · rcases List.mem_cons.mp q3 with q3 | q3
          · omega
          · have := (List.pairwise_cons.mp sf.2.1).1 i q3
            omega
theorem all_due : ∀ i ∈ hs, done c (wr hs c w true) w i = w i := fun i hi => by
  unfold done
  split
  · rfl
  · rename_i q
    by_cases e : c i = w i
    · exact e
    · exact absurd (List.mem_filter.mpr ⟨hi, by simpa using e⟩) q
theorem all_not : ∀ i ∈ hs, done c (wr hs c w false) (fun _ => 0) i = 0 := fun i hi => by
  unfold done
  split
  · rfl
  · rename_i q
    by_cases e : c i = 0
    · exact e
    · exact absurd (List.mem_filter.mpr ⟨List.mem_reverse.mpr hi, by simpa using e⟩) q
theorem all_done {due : Bool} : ∀ i ∈ hs, done c (wr hs c w due) (wto w due) i = wto w due i := by
  cases due with
  | true => exact all_due
  | false => exact all_not
/-- some writes done, the next with any content -/
theorem Cut.torn {due : Bool} (s : Srt hs) (h : Cut hs c w t) {A B : List Int} {x : Int} (e : wr hs c w due = A ++ x :: B) (y : Int) : Cut hs (fun i => if i = x then y else done c A (wto w due) i) w x := by
  cases due with
  | true => exact h.torn_due s e y
  | false => exact h.torn_not s e y
theorem torn_nz {A B : List Int} {x : Int} (e : wr hs c w false = A ++ x :: B) (y : Int) : nz hs (fun i => if i = x then y else done c A (wto w false) i) ≤ nz hs c := by
  refine nz_mono fun i hi hc => ?_
  have hm : ∀ z ∈ A ++ x :: B, c z ≠ 0 := fun z hz => by
    rw [← e] at hz
    simpa using (List.mem_filter.mp hz).2
  have h1 : i ≠ x := by rintro rfl; exact hm i (by simp) hc
  rw [if_neg h1]
  unfold done
  split
  · rfl
  · exact hc
end
end Num

/-! MirO: more plain laws: the store, loops without a change of state, a law's box -/
namespace Mir
open PySem L2
section
variable {K : PySem.W.Frag} {s : Sto K} {r : Ref} {o : Ob}
theorem st_mnew {Q : Ref → Sto K → Prop} : (mnew o s).st Q ↔ ∀ a, s.f a = none → Q ⟨a⟩ (s.put a o) := by rw [st_iff, sat_mnew]
theorem st_mldL {Q : List Py → Sto K → Prop} : (mldL r s).st Q ↔ ∃ xs, s.f r.a = some (.lst xs) ∧ Q xs s := by rw [st_iff, sat_mldL]
theorem st_mldD {Q : List (Key × Py) → Sto K → Prop} : (mldD r s).st Q ↔ ∃ xs, s.f r.a = some (.dic xs) ∧ Q xs s := by rw [st_iff, sat_mldD]
theorem st_mput {Q : Unit → Sto K → Prop} : (mput r o s).st Q ↔ ∃ o0, s.f r.a = some o0 ∧ Q () (s.put r.a o) := by rw [st_iff, sat_mput]
theorem st_mldT {α : Type} [Rp α] [PyT α] {Q : List α → Sto K → Prop} : (mldT α r s).st Q ↔ ∃ ps xs, s.f r.a = some (.lst ps) ∧ decs α ps = some xs ∧ Q xs s := by rw [st_iff, sat_mldT]
end
section
variable {S α β τ ρ : Type}
theorem st_moc {m : Mn S (Option ρ)} {m0 : Mn S τ} {m1 : ρ → Mn S τ} {s : S} {Q : τ → S → Prop} : (moc m m0 m1 s).st Q ↔ (m s).st fun o s' => (o = none → (m0 s').st Q) ∧ ∀ x, o = some x → (m1 x s').st Q := by
  unfold moc
  rw [st_mb]
  constructor
  · refine fun h => R.st_imp h fun o s' h => ?_
    cases o with
    | none => exact ⟨fun _ => h, fun x e => nomatch e⟩
    | some x => exact ⟨fun e => (nomatch e), fun y e => by cases e; exact h⟩
  · refine fun h => R.st_imp h fun o s' h => ?_
    cases o with
    | none => exact h.1 rfl
    | some x => exact h.2 x rfl
/-- a loop without a change of state -/
theorem st_forF {body : α → τ → Mn S τ} {f : τ → α → τ} {P : τ → Prop} {s : S} {Q : τ → S → Prop} : ∀ {xs : List α} {t : τ}, P t → (∀ x ∈ xs, ∀ t, P t → (body x t s).st fun t' s' => t' = f t x ∧ P t' ∧ s' = s) → (P (xs.foldl f t) → Q (xs.foldl f t) s) → (forP xs t body s).st Q
  | [], t, h, _, q => by rw [forP_nil]; exact st_mp.mpr (q h)
  | x :: xs, t, h, hb, q => by
    rw [forP_cons]
    refine st_mb.mpr (R.st_imp (hb x (List.mem_cons_self ..) t h) fun t' s' ⟨e, p, e2⟩ => ?_)
    subst e e2
    exact st_forF p (fun y hy => hb y (List.mem_cons_of_mem _ hy)) q
theorem st_cmA {f : α → Mn S β} {g : α → β} {s : S} {Q : List β → S → Prop} {xs : List α} (hl : xs.length ≤ 16000000) (hf : ∀ x ∈ xs, (f x s).st fun y s' => y = g x ∧ s' = s) (q : Q (xs.map g) s) : (cmP xs (fun _ => mp true) f s).st Q := by
  refine st_cmP (p := fun _ => true) hl (fun x _ => st_mp.mpr ⟨rfl, rfl⟩) (fun x hx _ => hf x hx) ?_
  rw [List.filter_eq_self.mpr (by simp)]
  exact q
theorem st_cmF {c : α → Mn S Bool} {f : α → Mn S β} {p : α → Bool} {g : α → β} {s : S} {Q : List β → S → Prop} {xs : List α} (hl : xs.length ≤ 16000000) (hc : ∀ x ∈ xs, (c x s).st fun b s' => b = p x ∧ s' = s) (hf : ∀ x ∈ xs, p x = true → (f x s).st fun y s' => y = g x ∧ s' = s) (q : Q ((xs.filter p).map g) s) : (cmP xs c f s).st Q := st_cmP hl hc hf q
def okv [DecidableEq α] (r : R S α) (x : α) : Bool := match r with
  | .ok y _ => decide (y = x)
  | _ => false
theorem of_okv [DecidableEq α] {r : R Unit α} {x : α} {Q : α → Unit → Prop} (h : okv r x = true) (q : Q x ()) : r.st Q := by
  cases r with
  | ok y s => cases of_decide_eq_true h; exact ⟨q⟩
  | bad => cases h
  | exc => cases h
  | all => cases h
end
theorem allid {α : Type} {p : α → Bool} {xs : List α} : (xs.map p).all id = xs.all p := by rw [List.all_map]; rfl
theorem anyid {α : Type} {p : α → Bool} {xs : List α} : (xs.map p).any id = xs.any p := by rw [List.any_map]; rfl
theorem rng_length {a : Int} {n : Nat} : (rng a n).length = n := by unfold rng; simp
theorem sIx_pos {n : Nat} {d : Nat} {i : Int} (h : 0 ≤ i) : HT.sIx n d (some i) = min i.toNat n := by
  unfold HT.sIx
  simp only
  split <;> omega
theorem cutL_to {α : Type} {xs : List α} {i : Int} (h : 0 ≤ i) : cutL xs none (some i) = xs.take i.toNat := by
  unfold cutL
  rw [sIx_pos h]
  show (xs.drop 0).take (min i.toNat xs.length - 0) = _
  rw [List.drop_zero, Nat.sub_zero]
  by_cases q : i.toNat ≤ xs.length
  · rw [Nat.min_eq_left q]
  · rw [Nat.min_eq_right (by omega), List.take_length, List.take_of_length_le (by omega)]
theorem cutL_from {α : Type} {xs : List α} {i : Int} (h : 0 ≤ i) : cutL xs (some i) none = xs.drop i.toNat := by
  unfold cutL
  rw [sIx_pos h]
  show (xs.drop (min i.toNat xs.length)).take (xs.length - min i.toNat xs.length) = _
  by_cases q : i.toNat ≤ xs.length
  · rw [Nat.min_eq_left q, List.take_of_length_le (by rw [List.length_drop]; omega)]
  · rw [Nat.min_eq_right (by omega), List.drop_length, List.drop_of_length_le (by omega)]
    simp
/-! ### bits -/
def Bn (a : Nat) (x : Int) : Prop := x.natAbs < 2 ^ a
theorem Bn.mul {a b : Nat} {x y : Int} (h : Bn a x) (g : Bn b y) : Bn (a + b) (x * y) := by
  unfold Bn at *
  rw [Int.natAbs_mul, Nat.pow_add]
  exact Nat.mul_lt_mul'' h g
theorem Bn.mono {a b : Nat} {x : Int} (h : Bn a x) (l : a ≤ b) : Bn b x := Nat.lt_of_lt_of_le h (Nat.pow_le_pow_right (by decide) l)
theorem Bn.add {a : Nat} {x y : Int} (h : Bn a x) (g : Bn a y) : Bn (a + 1) (x + y) := by
  unfold Bn at *
  have := Int.natAbs_add_le x y
  rw [Nat.pow_succ]
  omega
theorem Bn.ok {a b : Nat} {x y : Int} (h : Bn a x) (g : Bn b y) (ha : a ≠ 0) (hb : b ≠ 0) (hl : a + b ≤ 1000000) : mulOk x y = true := decide_eq_true (by
  have h1 := log2_lt' h ha
  have h2 := log2_lt' g hb
  omega)
theorem Bn.small {x : Int} (h0 : 0 ≤ x) (h1 : x < 1024) : Bn 10 x := by
  unfold Bn
  have : (2 : Nat) ^ 10 = 1024 := by decide
  omega
theorem Bn.pow {a : Nat} {x : Int} (h : Bn a x) : ∀ n : Nat, Bn (a * n + 1) (x ^ n)
  | 0 => by unfold Bn; rw [Int.pow_zero, Nat.mul_zero]; decide
  | n + 1 => by
    rw [Int.pow_succ, Nat.mul_succ, show a * n + a + 1 = (a * n + 1) + a by omega]
    exact (Bn.pow h n).mul h
theorem Bn.le {a : Nat} {x y : Int} (h : Bn a y) (h0 : 0 ≤ x) (h1 : x ≤ y) : Bn a x := by
  unfold Bn at *
  omega
/-! ### a law's box: an object of the store -/
def Bx {K : PySem.W.Frag} (s : Sto K) (r : Ref) (n : Int) : Prop := ∃ (g : Int) (f : Bool) (m c : Int), s.f r.a = some (.lst [.int g, .bl f, .int m, .int c]) ∧ 0 ≤ g ∧ 0 ≤ m ∧ m < 2147483647 ∧ 0 ≤ c ∧ c ≤ n
/-- nothing else has changed -/
def Only {K : PySem.W.Frag} (r : Ref) (s s' : Sto K) : Prop := ∀ b, b ≠ r.a → s'.f b = s.f b
section
variable {K : PySem.W.Frag} {s s' s'' : Sto K} {r : Ref} {n : Int}
theorem Only.refl : Only r s s := fun _ _ => rfl
theorem Only.trans (h : Only r s s') (g : Only r s' s'') : Only r s s'' := fun b e => (g b e).trans (h b e)
theorem Bx.mono {m : Int} (h : Bx s r n) (l : n ≤ m) : Bx s r m := by
  obtain ⟨g, f, m, c, h, h1, h2, h3, h4, h5⟩ := h
  exact ⟨g, f, m, c, h, h1, h2, h3, h4, by omega⟩
end
end Mir

/-! MirP: views as dicts of ints -/
namespace Mir
open PySem L2 Num
/-- one content changed -/
def sv (c : Int → Int) (i x y : Int) : Int := if y = i then x else c y
theorem putI_mk {hs : List Int} {c : Int → Int} {i x : Int} (h : i ∈ hs) : putI (mk hs c) i x = mk hs (sv c i x) := by
  unfold putI
  have : ((mk hs c).any fun kv => decide (kv.1 = i)) = true := List.any_eq_true.mpr ⟨(i, c i), mk_mem.mpr ⟨h, rfl⟩, decide_eq_true rfl⟩
  rw [if_pos this, mk_map]
  refine List.map_congr_left fun y hy => ?_
  unfold sv
  by_cases e : y = i
  · rw [if_pos e, if_pos e]
  · rw [if_neg e, if_neg e]
theorem putI_new {hs : List Int} {c : Int → Int} {i : Int} (h : i ∉ hs) : putI (mk hs c) i (c i) = mk (hs ++ [i]) c := by
  unfold putI
  rw [if_neg]
  · unfold mk
    rw [List.map_append]
    rfl
  · intro g
    obtain ⟨b, hb, e⟩ := List.any_eq_true.mp g
    have e := of_decide_eq_true e
    exact h (e ▸ (mk_mem.mp hb).1)
theorem mergeI_mk {hs : List Int} {c : Int → Int} (h : hs.Nodup) : mergeI (mk hs c) = mk hs c := by
  have go : ∀ (rest pre : List Int), (pre ++ rest).Nodup → (mk rest c).foldl (fun acc kv => putI acc kv.1 kv.2) (mk pre c) = mk (pre ++ rest) c := by
    intro rest
    induction rest with
    | nil => intro pre _; rw [List.append_nil]; rfl
    | cons i rest ih =>
      intro pre hn
      show (mk rest c).foldl _ (putI (mk pre c) i (c i)) = _
      have hi : i ∉ pre := fun hi => (List.nodup_append.mp hn).2.2 i hi i (List.mem_cons_self ..) rfl
      rw [putI_new hi, ih (pre ++ [i]) (by rw [List.append_assoc]; exact hn), List.append_assoc]
      rfl
  exact go hs [] h
theorem srtP_mk {hs : List Int} {c : Int → Int} (h : Srt hs) : srtP (mk hs c) = mk hs c := by
  refine (srtP_eq (List.Perm.refl _) ?_).symm
  unfold mk
  rw [List.pairwise_map]
  refine List.Pairwise.imp (fun {x y} hxy => ?_) h
  cases e : SrtO.lexB (y, c y) (x, c x) with
  | false => rfl
  | true =>
    exfalso
    rcases SrtO.lexB_iff.mp e with e | e
    · dsimp only at e; omega
    · have := e.1; dsimp only at this; omega
/-- writes, one by one -/
theorem put_all {hs : List Int} {u : Int → Int} : ∀ {L : List Int} {c : Int → Int}, (∀ i ∈ L, i ∈ hs) → (mk L u).foldl (fun acc kv => putI acc kv.1 kv.2) (mk hs c) = mk hs (done c L u)
  | [], c, _ => by rw [done_nil]; rfl
  | i :: L, c, h => by
    show (mk L u).foldl _ (putI (mk hs c) i (u i)) = _
    rw [putI_mk (h i (List.mem_cons_self ..)), put_all fun y hy => h y (List.mem_cons_of_mem _ hy)]
    exact congrArg (mk hs) done_cons
end Mir

namespace L60
open PySem PySem.Spec PyProof.Rows L2 Mir
abbrev FnP (K : PySem.W.Frag) (x : Str) (st : Stmt) (f : Addr) (fd : FuncData) : Prop := FunD K x x (defArgs st) (defBody st) (defScope st) [] [] f fd
section
variable {P : Program} {w : World} {K : PySem.W.Frag} {mg : Str → Option Value} {base : Heap}
def m_is_whole (value : Int) : Mn Unit Bool :=
  (mp ((true && (!false)) : Bool))
abbrev sp_is_whole (K : PySem.W.Frag) : Sp := Prom (rIm K) (S := Unit) (fun i : Int => [.im (pv K i)]) fun i => m_is_whole i
theorem len_is_whole : ∀ vs H Q E, sp_is_whole K vs H Q E → vs.length = 1 := prom_len (S := Unit) (Ret := (rIm K)) (As := fun i : Int => [.im (pv K i)]) (m := fun i => m_is_whole i) fun _ => rfl
theorem sc_is_whole : FnScope ["value"] ["value"] (defScope (top 15)) := ⟨rfl, rfl, rfl, by decide +kernel, rfl, by decide +kernel, by decide +kernel⟩
theorem fo_is_whole {f : Addr} {fd : FuncData} (F : FnP K "is_whole" (top 15) f fd) (b_bool : mg "bool" = none) (b_int : mg "int" = none) (b_isinstance : mg "isinstance" = none) : FnOk P w K mg base CX0 1 f fd ["value"] (sp_is_whole K) := by
  refine F.ok sc_is_whole (len_is_whole (K := K)) (fun cdv A outer s H vs Q E hr h => ?_)
  have hl : vs.length = 1 := len_is_whole (K := K) vs H Q E h
  match vs, hl, h with
  | [v0], _, h => exact ⟨_, PSs.nox ((pss_one (ps_ret (pe_and (pe_callB call_isi rfl b_isinstance bt_isinstance (pa_cons (L2.pv 0) (pa_cons (pe_bltn (v := .ty "int") rfl b_int bt_int rfl) pa_nil))) (pe_one (pe_not (pe_callB call_isi rfl b_isinstance bt_isinstance (pa_cons (L2.pv 0) (pa_cons (pe_bltn (v := .ty "bool") rfl b_bool bt_bool rfl) pa_nil))))))))), prom_ok (n := 1) (S := Unit) (Ret := (rIm K)) (As := fun i : Int => [.im (pv K i)]) (m := fun i => m_is_whole i) 0 (fun _ => rfl) rfl (fun value => (show RN (rIm K) _ (fun (s : Unit) => [.im (pv K value)]) (m_is_whole value) (fun (s : Unit) => [.no]) from (rn_of (rt_ret (em_pure fun _ => (ep_andV (ep_cb (ap_cons (ep_var rfl) (ap_cons ep_ty ap_nil)) (c_isi (b := true) (t := "int") ty_int (by decide +kernel))) fun _ => (ep_notV (ep_cb (ap_cons (ep_var rfl) (ap_cons ep_ty ap_nil)) (c_isi (b := false) (t := "int") ty_int (by decide +kernel)))))) fun s => (.cons (.no _) .nil))))) h⟩
theorem ok_is_whole {f : Addr} {fd : FuncData} (F : FnP K "is_whole" (top 15) f fd) (hg : mg "is_whole" = some (.ref f)) (b_bool : mg "bool" = none) (b_int : mg "int" = none) (b_isinstance : mg "isinstance" = none) : Cal P w K mg base 1 "is_whole" ["value"] (sp_is_whole K) := ⟨f, fd, fo_is_whole F b_bool b_int b_isinstance, hg, F.kp, F.bindsN fun _ _ _ _ _ _ us hl => match us, hl with | [_], _ => rfl⟩
def m_is_between (value : Int) (least : Int) (most : Int) : Mn Unit Bool :=
  (mb (mu (m_is_whole value)) fun b1 => mi b1 (mp ((decide (least ≤ value) && decide (value ≤ most)) : Bool)) (mp false))
abbrev sp_is_between (K : PySem.W.Frag) : Sp := Prom (rIm K) (S := Unit) (fun i : Int × Int × Int => [.im (pv K i.1), .im (pv K i.2.1), .im (pv K i.2.2)]) fun i => m_is_between i.1 i.2.1 i.2.2
theorem len_is_between : ∀ vs H Q E, sp_is_between K vs H Q E → vs.length = 3 := prom_len (S := Unit) (Ret := (rIm K)) (As := fun i : Int × Int × Int => [.im (pv K i.1), .im (pv K i.2.1), .im (pv K i.2.2)]) (m := fun i => m_is_between i.1 i.2.1 i.2.2) fun _ => rfl
theorem sc_is_between : FnScope ["value", "least", "most"] ["value", "least", "most"] (defScope (top 16)) := ⟨rfl, rfl, rfl, by decide +kernel, rfl, by decide +kernel, by decide +kernel⟩
theorem fo_is_between {f : Addr} {fd : FuncData} (F : FnP K "is_between" (top 16) f fd) (C_is_whole : Cal P w K mg base 1 "is_whole" ["value"] (sp_is_whole K)) : FnOk P w K mg base CX0 2 f fd ["value", "least", "most"] (sp_is_between K) := by
  obtain ⟨f_is_whole, fd_is_whole, G_is_whole, g_is_whole, kp_is_whole, bi_is_whole⟩ := C_is_whole.ex
  refine F.ok sc_is_between (len_is_between (K := K)) (fun cdv A outer s H vs Q E hr h => ?_)
  have hl : vs.length = 3 := len_is_between (K := K) vs H Q E h
  match vs, hl, h with
  | [v0, v1, v2], _, h => exact ⟨_, PSs.nox ((pss_one (ps_ret (pe_and (pe_call G_is_whole (hr.mono (Nat.le_of_ble_eq_true rfl)) rfl g_is_whole kp_is_whole bi_is_whole .nil pass0 (pa_cons (L2.pv 0) pa_nil)) (pe_one (pe_chain op_le op_le (L2.pv 1) (L2.pv 0) (L2.pv 2))))))), prom_ok (n := 3) (S := Unit) (Ret := (rIm K)) (As := fun i : Int × Int × Int => [.im (pv K i.1), .im (pv K i.2.1), .im (pv K i.2.2)]) (m := fun i => m_is_between i.1 i.2.1 i.2.2) 0 (fun _ => rfl) rfl (fun (value, least, most) => (show RN (rIm K) _ (fun (s : Unit) => [.im (pv K value), .im (pv K least), .im (pv K most)]) (m_is_between value least most) (fun (s : Unit) => [.no, .no, .no]) from (rn_of (rt_ret (em_andV (em_of_eo (eo_call0 (i := value) (ps := [pv K value]) (fun _ => (ap_cons (ep_var rfl) ap_nil)) rfl)) (em_pure fun _ => (ep_chain (ep_var rfl) (ep_var rfl) (ep_var rfl) o_le o_le))) fun s => (.cons (.no _) (.cons (.no _) (.cons (.no _) .nil))))))) h⟩
theorem ok_is_between {f : Addr} {fd : FuncData} (F : FnP K "is_between" (top 16) f fd) (hg : mg "is_between" = some (.ref f)) (C_is_whole : Cal P w K mg base 1 "is_whole" ["value"] (sp_is_whole K)) : Cal P w K mg base 2 "is_between" ["value", "least", "most"] (sp_is_between K) := ⟨f, fd, fo_is_between F C_is_whole, hg, F.kp, F.bindsN fun _ _ _ _ _ _ us hl => match us, hl with | [_, _, _], _ => rfl⟩
def m_is_list__P (value : (Sq (Int × Int))) : Mn Unit Bool :=
  (mp true)
abbrev sp_is_list__P (K : PySem.W.Frag) : Sp := Prom (rIm K) (S := Unit) (fun i : (Sq (Int × Int)) => [.im (pv K i)]) fun i => m_is_list__P i
theorem len_is_list__P : ∀ vs H Q E, sp_is_list__P K vs H Q E → vs.length = 1 := prom_len (S := Unit) (Ret := (rIm K)) (As := fun i : (Sq (Int × Int)) => [.im (pv K i)]) (m := fun i => m_is_list__P i) fun _ => rfl
theorem sc_is_list__P : FnScope ["value"] ["value"] (defScope (top 17)) := ⟨rfl, rfl, rfl, by decide +kernel, rfl, by decide +kernel, by decide +kernel⟩
theorem fo_is_list__P {f : Addr} {fd : FuncData} (F : FnP K "is_list" (top 17) f fd) (b_isinstance : mg "isinstance" = none) (b_list : mg "list" = none) (b_tuple : mg "tuple" = none) : FnOk P w K mg base CX0 1 f fd ["value"] (sp_is_list__P K) := by
  refine F.ok sc_is_list__P (len_is_list__P (K := K)) (fun cdv A outer s H vs Q E hr h => ?_)
  have hl : vs.length = 1 := len_is_list__P (K := K) vs H Q E h
  match vs, hl, h with
  | [v0], _, h => exact ⟨_, PSs.nox ((pss_one (ps_ret (pe_callB call_isiT rfl b_isinstance bt_isinstance (pa_cons (L2.pv 0) (pa_cons (pe_tup (pa_cons (pe_bltn (v := .ty "list") rfl b_list bt_list rfl) (pa_cons (pe_bltn (v := .ty "tuple") rfl b_tuple bt_tuple rfl) pa_nil))) pa_nil)))))), prom_ok (n := 1) (S := Unit) (Ret := (rIm K)) (As := fun i : (Sq (Int × Int)) => [.im (pv K i)]) (m := fun i => m_is_list__P i) 0 (fun _ => rfl) rfl (fun value => (show RN (rIm K) _ (fun (s : Unit) => [.im (pv K value)]) (m_is_list__P value) (fun (s : Unit) => [.no]) from (rn_of (rt_ret (em_pure fun _ => (ep_cb (ap_cons (ep_var rfl) (ap_cons (ep_ty2 (ap_cons ep_ty (ap_cons ep_ty ap_nil))) ap_nil)) c_isi2Sq)) fun s => (.cons (.no _) .nil))))) h⟩
theorem ok_is_list__P {f : Addr} {fd : FuncData} (F : FnP K "is_list" (top 17) f fd) (hg : mg "is_list" = some (.ref f)) (b_isinstance : mg "isinstance" = none) (b_list : mg "list" = none) (b_tuple : mg "tuple" = none) : Cal P w K mg base 1 "is_list" ["value"] (sp_is_list__P K) := ⟨f, fd, fo_is_list__P F b_isinstance b_list b_tuple, hg, F.kp, F.bindsN fun _ _ _ _ _ _ us hl => match us, hl with | [_], _ => rfl⟩
def m_is_list__I (value : (Sq Int)) : Mn Unit Bool :=
  (mp true)
abbrev sp_is_list__I (K : PySem.W.Frag) : Sp := Prom (rIm K) (S := Unit) (fun i : (Sq Int) => [.im (pv K i)]) fun i => m_is_list__I i
theorem len_is_list__I : ∀ vs H Q E, sp_is_list__I K vs H Q E → vs.length = 1 := prom_len (S := Unit) (Ret := (rIm K)) (As := fun i : (Sq Int) => [.im (pv K i)]) (m := fun i => m_is_list__I i) fun _ => rfl
theorem sc_is_list__I : FnScope ["value"] ["value"] (defScope (top 17)) := ⟨rfl, rfl, rfl, by decide +kernel, rfl, by decide +kernel, by decide +kernel⟩
theorem fo_is_list__I {f : Addr} {fd : FuncData} (F : FnP K "is_list" (top 17) f fd) (b_isinstance : mg "isinstance" = none) (b_list : mg "list" = none) (b_tuple : mg "tuple" = none) : FnOk P w K mg base CX0 1 f fd ["value"] (sp_is_list__I K) := by
  refine F.ok sc_is_list__I (len_is_list__I (K := K)) (fun cdv A outer s H vs Q E hr h => ?_)
  have hl : vs.length = 1 := len_is_list__I (K := K) vs H Q E h
  match vs, hl, h with
  | [v0], _, h => exact ⟨_, PSs.nox ((pss_one (ps_ret (pe_callB call_isiT rfl b_isinstance bt_isinstance (pa_cons (L2.pv 0) (pa_cons (pe_tup (pa_cons (pe_bltn (v := .ty "list") rfl b_list bt_list rfl) (pa_cons (pe_bltn (v := .ty "tuple") rfl b_tuple bt_tuple rfl) pa_nil))) pa_nil)))))), prom_ok (n := 1) (S := Unit) (Ret := (rIm K)) (As := fun i : (Sq Int) => [.im (pv K i)]) (m := fun i => m_is_list__I i) 0 (fun _ => rfl) rfl (fun value => (show RN (rIm K) _ (fun (s : Unit) => [.im (pv K value)]) (m_is_list__I value) (fun (s : Unit) => [.no]) from (rn_of (rt_ret (em_pure fun _ => (ep_cb (ap_cons (ep_var rfl) (ap_cons (ep_ty2 (ap_cons ep_ty (ap_cons ep_ty ap_nil))) ap_nil)) c_isi2Sq)) fun s => (.cons (.no _) .nil))))) h⟩
theorem ok_is_list__I {f : Addr} {fd : FuncData} (F : FnP K "is_list" (top 17) f fd) (hg : mg "is_list" = some (.ref f)) (b_isinstance : mg "isinstance" = none) (b_list : mg "list" = none) (b_tuple : mg "tuple" = none) : Cal P w K mg base 1 "is_list" ["value"] (sp_is_list__I K) := ⟨f, fd, fo_is_list__I F b_isinstance b_list b_tuple, hg, F.kp, F.bindsN fun _ _ _ _ _ _ us hl => match us, hl with | [_], _ => rfl⟩
def m_is_tuple_of (value : (Int × Int)) (many : Int) : Mn Unit Bool :=
  (mp ((true && decide ((2 : Int) = many)) : Bool))
abbrev sp_is_tuple_of (K : PySem.W.Frag) : Sp := Prom (rIm K) (S := Unit) (fun i : (Int × Int) × Int => [.im (pv K i.1), .im (pv K i.2)]) fun i => m_is_tuple_of i.1 i.2
theorem len_is_tuple_of : ∀ vs H Q E, sp_is_tuple_of K vs H Q E → vs.length = 2 := prom_len (S := Unit) (Ret := (rIm K)) (As := fun i : (Int × Int) × Int => [.im (pv K i.1), .im (pv K i.2)]) (m := fun i => m_is_tuple_of i.1 i.2) fun _ => rfl
theorem sc_is_tuple_of : FnScope ["value", "many"] ["value", "many"] (defScope (top 18)) := ⟨rfl, rfl, rfl, by decide +kernel, rfl, by decide +kernel, by decide +kernel⟩
theorem fo_is_tuple_of {f : Addr} {fd : FuncData} (F : FnP K "is_tuple_of" (top 18) f fd) (b_isinstance : mg "isinstance" = none) (b_len : mg "len" = none) (b_tuple : mg "tuple" = none) : FnOk P w K mg base CX0 1 f fd ["value", "many"] (sp_is_tuple_of K) := by
  refine F.ok sc_is_tuple_of (len_is_tuple_of (K := K)) (fun cdv A outer s H vs Q E hr h => ?_)
  have hl : vs.length = 2 := len_is_tuple_of (K := K) vs H Q E h
  match vs, hl, h with
  | [v0, v1], _, h => exact ⟨_, PSs.nox ((pss_one (ps_ret (pe_and (pe_callB call_isi rfl b_isinstance bt_isinstance (pa_cons (L2.pv 0) (pa_cons (pe_bltn (v := .ty "tuple") rfl b_tuple bt_tuple rfl) pa_nil))) (pe_one (pe_cmpR op_eq (pe_callB call_len_seq rfl b_len bt_len (pa_cons (L2.pv 0) pa_nil)) (L2.pv 1) (nomark _))))))), prom_ok (n := 2) (S := Unit) (Ret := (rIm K)) (As := fun i : (Int × Int) × Int => [.im (pv K i.1), .im (pv K i.2)]) (m := fun i => m_is_tuple_of i.1 i.2) 0 (fun _ => rfl) rfl (fun (value, many) => (show RN (rIm K) _ (fun (s : Unit) => [.im (pv K value), .im (pv K many)]) (m_is_tuple_of value many) (fun (s : Unit) => [.no, .no]) from (rn_of (rt_ret (em_pure fun _ => (ep_andV (ep_cb (ap_cons (ep_var rfl) (ap_cons ep_ty ap_nil)) (c_isi (b := true) (t := "tuple") ty_prod (by decide +kernel))) fun _ => (ep_op (ep_cb (ap_cons (ep_var rfl) ap_nil) c_lenP) (ep_var rfl) o_eq))) fun s => (.cons (.no _) (.cons (.no _) .nil)))))) h⟩
theorem ok_is_tuple_of {f : Addr} {fd : FuncData} (F : FnP K "is_tuple_of" (top 18) f fd) (hg : mg "is_tuple_of" = some (.ref f)) (b_isinstance : mg "isinstance" = none) (b_len : mg "len" = none) (b_tuple : mg "tuple" = none) : Cal P w K mg base 1 "is_tuple_of" ["value", "many"] (sp_is_tuple_of K) := ⟨f, fd, fo_is_tuple_of F b_isinstance b_len b_tuple, hg, F.kp, F.bindsN fun _ _ _ _ _ _ us hl => match us, hl with | [_, _], _ => rfl⟩
def m_is_rising (items : (Sq Int)) : Mn Unit Bool :=
  (mb (mb (mb (mc (b62 ((((items.l.length : Nat) : Int) - (1 : Int)) : Int)) (rng 0 ((((items.l.length : Nat) : Int) - (1 : Int)) : Int).toNat)) fun xs => cmP xs (fun (a2 : Int) => (mp true)) fun a2 => (mb (mo (atI items.l a2)) fun x_7 => mb (mo (atI items.l (a2 + (1 : Int)))) fun y8 => mp (decide (x_7 < y8)))) fun x_9 => mb (mp ()) fun z10 => mp (x_9, z10)) fun z11 => mp (z11.1.all id))
abbrev sp_is_rising (K : PySem.W.Frag) : Sp := Prom (rIm K) (S := Unit) (fun i : (Sq Int) => [.im (pv K i)]) fun i => m_is_rising i
theorem len_is_rising : ∀ vs H Q E, sp_is_rising K vs H Q E → vs.length = 1 := prom_len (S := Unit) (Ret := (rIm K)) (As := fun i : (Sq Int) => [.im (pv K i)]) (m := fun i => m_is_rising i) fun _ => rfl
theorem sc_is_rising : FnScope ["items", "at"] ["items"] (defScope (top 19)) := ⟨rfl, rfl, rfl, by decide +kernel, rfl, by decide +kernel, by decide +kernel⟩
theorem fo_is_rising {f : Addr} {fd : FuncData} (F : FnP K "is_rising" (top 19) f fd) (b_all : mg "all" = none) (b_len : mg "len" = none) (b_range : mg "range" = none) : FnOk P w K mg base CX0 1 f fd ["items"] (sp_is_rising K) := by
  refine F.ok sc_is_rising (len_is_rising (K := K)) (fun cdv A outer s H vs Q E hr h => ?_)
  have hl : vs.length = 1 := len_is_rising (K := K) vs H Q E h
  match vs, hl, h with
  | [v0], _, h => exact ⟨_, PSs.nox ((pss_one (ps_ret (pe_callB (cr_all rfl) rfl b_all bt_all (pa_cons (pe_lc (own := [("at", 1)]) rfl sc_is_rising.nd (pi_range1 rfl b_range (pa_cons (pe_op op_sub (pe_callB call_len_seq rfl b_len bt_len (pa_cons (L2.pv 0) pa_nil)) pe_int) pa_nil)) (blkOk_by (own := [("at", 1)]) (N := ["items", "at"]) (sc := defScope (top 19)) (by decide +kernel)) (fun _ _ _ _ _ => (pg_name (i := 1) sc_is_rising.nd rfl (Or.inl rfl))) (fun _ _ _ _ _ => pts_nil) (fun _ _ _ _ _ => (pe_cmpR op_lt (pe_ix (IxR.or ix_list ix_tup) (L2.pv 0) (L2.pv 1) (fun _ _ => rfl)) (pe_ix (IxR.or ix_list ix_tup) (L2.pv 0) (pe_op op_add (L2.pv 1) pe_int) (fun _ _ => rfl)) (nomark _)))) pa_nil))))), prom_ok (n := 1) (S := Unit) (Ret := (rIm K)) (As := fun i : (Sq Int) => [.im (pv K i)]) (m := fun i => m_is_rising i) 1 (fun _ => rfl) rfl (fun items => (show RN (rIm K) _ (fun (s : Unit) => [.im (pv K items), .no]) (m_is_rising items) (fun (s : Unit) => [.no, .no]) from (rn_of (rt_ret (em_cb (f := fun (z11 : (List Bool) × Unit) => (z11.1.all id)) (am_cons (em_lc (Γx := fun (a2 : Int) (s : Unit) => [.im (pv K items), .im (pv K a2)]) (js := [1]) (im_rng1 fun _ => (ap_cons (ep_op (ep_cb (ap_cons (ep_var rfl) ap_nil) c_lenSq) (ep_int (K := K)) o_sub) ap_nil)) (fun _ => rfl) (fun a2 s => (gt_name (Γ := [.im (pv K items), .no]) (i := 1) (Γ' := [.im (pv K items), .im (pv K a2)]) rfl rfl)) rfl (fun a2 => tm_yes) (fun a2 => (em_op (g := fun (u : Int) (v : Int) => decide (u < v)) (em_ixSqp (fun _ => (ep_var rfl)) fun _ => (ep_var rfl)) (em_ixSqp (fun _ => (ep_var rfl)) fun _ => (ep_op (ep_var rfl) (ep_int (K := K)) o_add)) fun _ _ => o_lt)) fun a2 s => (.cons (.rfl _) (.cons (.no _) .nil))) am_nil) fun _ => c_all) fun s => (.cons (.no _) (.cons (.rfl _) .nil)))))) h⟩
theorem ok_is_rising {f : Addr} {fd : FuncData} (F : FnP K "is_rising" (top 19) f fd) (hg : mg "is_rising" = some (.ref f)) (b_all : mg "all" = none) (b_len : mg "len" = none) (b_range : mg "range" = none) : Cal P w K mg base 1 "is_rising" ["items"] (sp_is_rising K) := ⟨f, fd, fo_is_rising F b_all b_len b_range, hg, F.kp, F.bindsN fun _ _ _ _ _ _ us hl => match us, hl with | [_], _ => rfl⟩
def m_is_prime (value : Int) : Mn Unit Bool :=
  (mb (mb (mu (m_is_between value ((2 : Int) : Int) ((997 : Int) : Int))) fun b12 => mp (!b12)) fun b => mi b
    (mp false)
    (mb (mb (mb (mc (b62 ((2 : Int) : Int) && b62 ((if (32 : Int) < value then (32 : Int) else value) : Int)) (rng ((2 : Int) : Int) (((if (32 : Int) < value then (32 : Int) else value) : Int) - ((2 : Int) : Int)).toNat)) fun xs => cmP xs (fun (a13 : Int) => (mp true)) fun a13 => (mb (mc (modOk a13) (value % a13)) fun x_14 => mp (!decide (x_14 = (0 : Int))))) fun x_16 => mb (mp ()) fun z17 => mp (x_16, z17)) fun z18 => mp (z18.1.all id)))
abbrev sp_is_prime (K : PySem.W.Frag) : Sp := Prom (rIm K) (S := Unit) (fun i : Int => [.im (pv K i)]) fun i => m_is_prime i
theorem len_is_prime : ∀ vs H Q E, sp_is_prime K vs H Q E → vs.length = 1 := prom_len (S := Unit) (Ret := (rIm K)) (As := fun i : Int => [.im (pv K i)]) (m := fun i => m_is_prime i) fun _ => rfl
theorem sc_is_prime : FnScope ["value", "factor"] ["value"] (defScope (top 22)) := ⟨rfl, rfl, rfl, by decide +kernel, rfl, by decide +kernel, by decide +kernel⟩
theorem fo_is_prime {f : Addr} {fd : FuncData} (F : FnP K "is_prime" (top 22) f fd) (b_all : mg "all" = none) (b_min : mg "min" = none) (b_range : mg "range" = none) (c_MOST_PRIME : ∃ t, mg "MOST_PRIME" = some (.int 997 t)) (C_is_between : Cal P w K mg base 2 "is_between" ["value", "least", "most"] (sp_is_between K)) : FnOk P w K mg base CX0 3 f fd ["value"] (sp_is_prime K) := by
  obtain ⟨t_MOST_PRIME, c_MOST_PRIME⟩ := c_MOST_PRIME
  obtain ⟨f_is_between, fd_is_between, G_is_between, g_is_between, kp_is_between, bi_is_between⟩ := C_is_between.ex
  refine F.ok sc_is_prime (len_is_prime (K := K)) (fun cdv A outer s H vs Q E hr h => ?_)
  have hl : vs.length = 1 := len_is_prime (K := K) vs H Q E h
  match vs, hl, h with
  | [v0], _, h => exact ⟨_, PSs.nox ((pss_cons (ps_if (pt_not (pt_val (pe_call G_is_between (hr.mono (Nat.le_of_ble_eq_true rfl)) rfl g_is_between kp_is_between bi_is_between .nil pass0 (pa_cons (L2.pv 0) (pa_cons pe_int (pa_cons (pe_glob (v := .int 997) rfl c_MOST_PRIME ⟨_, rfl⟩) pa_nil)))))) (pss_one (ps_ret pe_bl)) pss_nil) (pss_one (ps_ret (pe_callB (cr_all rfl) rfl b_all bt_all (pa_cons (pe_lc (own := [("factor", 1)]) rfl sc_is_prime.nd (pi_range2 rfl b_range (pa_cons pe_int (pa_cons (pe_callB (call_min2 rfl) rfl b_min bt_min (pa_cons (L2.pv 0) (pa_cons pe_int pa_nil))) pa_nil))) (blkOk_by (own := [("factor", 1)]) (N := ["value", "factor"]) (sc := defScope (top 22)) (by decide +kernel)) (fun _ _ _ _ _ => (pg_name (i := 1) sc_is_prime.nd rfl (Or.inl rfl))) (fun _ _ _ _ _ => pts_nil) (fun _ _ _ _ _ => (pe_cmpR op_ne (pe_op op_mod (L2.pv 0) (L2.pv 1)) pe_int (nomark _)))) pa_nil)))))), prom_ok (n := 1) (S := Unit) (Ret := (rIm K)) (As := fun i : Int => [.im (pv K i)]) (m := fun i => m_is_prime i) 1 (fun _ => rfl) rfl (fun value => (show RN (rIm K) _ (fun (s : Unit) => [.im (pv K value), .no]) (m_is_prime value) (fun (s : Unit) => [.no, .no]) from (rn_of (rt_ifr (tm_not (tm_B (em_of_eo (eo_call0 (i := (value, ((2 : Int) : Int), ((997 : Int) : Int))) (ps := [pv K value, pv K ((2 : Int) : Int), pv K ((997 : Int) : Int)]) (fun _ => (ap_cons (ep_var rfl) (ap_cons (ep_int (K := K)) (ap_cons (ep_int (K := K)) ap_nil)))) rfl)))) (rt_ret (em_pure fun _ => (ep_bl (K := K))) fun s => (.cons (.no _) (.cons (.rfl _) .nil))) (rt_ret (em_cb (f := fun (z18 : (List Bool) × Unit) => (z18.1.all id)) (am_cons (em_lc (Γx := fun (a13 : Int) (s : Unit) => [.im (pv K value), .im (pv K a13)]) (js := [1]) (im_rng2 fun _ => (ap_cons (ep_int (K := K)) (ap_cons (ep_cb (ap_cons (ep_var rfl) (ap_cons (ep_int (K := K)) ap_nil)) c_min2) ap_nil))) (fun _ => rfl) (fun a13 s => (gt_name (Γ := [.im (pv K value), .no]) (i := 1) (Γ' := [.im (pv K value), .im (pv K a13)]) rfl rfl)) rfl (fun a13 => tm_yes) (fun a13 => (em_opr (g := fun (u : Int) (v : Int) => (!decide (u = v))) (em_opC2 (fun _ => (ep_var rfl)) (fun _ => (ep_var rfl)) fun h => o_mod h) (fun _ => (ep_int (K := K))) fun _ => o_ne)) fun a13 s => (.cons (.rfl _) (.cons (.no _) .nil))) am_nil) fun _ => c_all) fun s => (.cons (.no _) (.cons (.rfl _) .nil))))))) h⟩
theorem ok_is_prime {f : Addr} {fd : FuncData} (F : FnP K "is_prime" (top 22) f fd) (hg : mg "is_prime" = some (.ref f)) (b_all : mg "all" = none) (b_min : mg "min" = none) (b_range : mg "range" = none) (c_MOST_PRIME : ∃ t, mg "MOST_PRIME" = some (.int 997 t)) (C_is_between : Cal P w K mg base 2 "is_between" ["value", "least", "most"] (sp_is_between K)) : Cal P w K mg base 3 "is_prime" ["value"] (sp_is_prime K) := ⟨f, fd, fo_is_prime F b_all b_min b_range c_MOST_PRIME C_is_between, hg, F.kp, F.bindsN fun _ _ _ _ _ _ us hl => match us, hl with | [_], _ => rfl⟩
def m_check_prime (prime : Int) : Mn Unit Unit :=
  (mb (mb (mu (m_is_prime prime)) fun b19 => mp (!b19)) fun b => mi b
    mbad
    (mp ()))
abbrev sp_check_prime (K : PySem.W.Frag) : Sp := Prom (rIm K) (S := Unit) (fun i : Int => [.im (pv K i)]) fun i => m_check_prime i
theorem len_check_prime : ∀ vs H Q E, sp_check_prime K vs H Q E → vs.length = 1 := prom_len (S := Unit) (Ret := (rIm K)) (As := fun i : Int => [.im (pv K i)]) (m := fun i => m_check_prime i) fun _ => rfl
theorem sc_check_prime : FnScope ["prime"] ["prime"] (defScope (top 23)) := ⟨rfl, rfl, rfl, by decide +kernel, rfl, by decide +kernel, by decide +kernel⟩
theorem fo_check_prime {f : Addr} {fd : FuncData} (F : FnP K "check_prime" (top 23) f fd) (C_is_prime : Cal P w K mg base 3 "is_prime" ["value"] (sp_is_prime K)) : FnOk P w K mg base CX0 4 f fd ["prime"] (sp_check_prime K) := by
  obtain ⟨f_is_prime, fd_is_prime, G_is_prime, g_is_prime, kp_is_prime, bi_is_prime⟩ := C_is_prime.ex
  refine F.ok sc_check_prime (len_check_prime (K := K)) (fun cdv A outer s H vs Q E hr h => ?_)
  have hl : vs.length = 1 := len_check_prime (K := K) vs H Q E h
  match vs, hl, h with
  | [v0], _, h => exact ⟨_, PSs.nox ((pss_one (ps_if (pt_not (pt_val (pe_call G_is_prime (hr.mono (Nat.le_of_ble_eq_true rfl)) rfl g_is_prime kp_is_prime bi_is_prime .nil pass0 (pa_cons (L2.pv 0) pa_nil)))) (pss_one ps_never) pss_nil))), prom_ok (n := 1) (S := Unit) (Ret := (rIm K)) (As := fun i : Int => [.im (pv K i)]) (m := fun i => m_check_prime i) 0 (fun _ => rfl) rfl (fun prime => (show RN (rIm K) _ (fun (s : Unit) => [.im (pv K prime)]) (m_check_prime prime) (fun (s : Unit) => [.no]) from ((rn_if (tm_not (tm_B (em_of_eo (eo_call0 (i := prime) (ps := [pv K prime]) (fun _ => (ap_cons (ep_var rfl) ap_nil)) rfl)))) (rn_of rt_never) (rn_next fun s => (.cons (.no _) .nil)))))) h⟩
theorem ok_check_prime {f : Addr} {fd : FuncData} (F : FnP K "check_prime" (top 23) f fd) (hg : mg "check_prime" = some (.ref f)) (C_is_prime : Cal P w K mg base 3 "is_prime" ["value"] (sp_is_prime K)) : Cal P w K mg base 4 "check_prime" ["prime"] (sp_check_prime K) := ⟨f, fd, fo_check_prime F C_is_prime, hg, F.kp, F.bindsN fun _ _ _ _ _ _ us hl => match us, hl with | [_], _ => rfl⟩
def m_prime_below (number : Int) : Mn Unit Int :=
  (mb (mp ((number - (1 : Int)) : Int)) fun found20 =>
  (mb (whP 1000 found20 (fun (t21 : Int) => (mb (mu (m_is_prime t21)) fun b22 => mp (!b22))) fun (t21 : Int) =>
    (mb (mp ((t21 - (1 : Int)) : Int)) fun found23 => mp found23)) fun t24 =>
  (mp t24)))
abbrev sp_prime_below (K : PySem.W.Frag) : Sp := Prom (rIm K) (S := Unit) (fun i : Int => [.im (pv K i)]) fun i => m_prime_below i
theorem len_prime_below : ∀ vs H Q E, sp_prime_below K vs H Q E → vs.length = 1 := prom_len (S := Unit) (Ret := (rIm K)) (As := fun i : Int => [.im (pv K i)]) (m := fun i => m_prime_below i) fun _ => rfl
theorem sc_prime_below : FnScope ["number", "found"] ["number"] (defScope (top 24)) := ⟨rfl, rfl, rfl, by decide +kernel, rfl, by decide +kernel, by decide +kernel⟩
theorem fo_prime_below {f : Addr} {fd : FuncData} (F : FnP K "prime_below" (top 24) f fd) (C_is_prime : Cal P w K mg base 3 "is_prime" ["value"] (sp_is_prime K)) : FnOk P w K mg base CX0 4 f fd ["number"] (sp_prime_below K) := by
  obtain ⟨f_is_prime, fd_is_prime, G_is_prime, g_is_prime, kp_is_prime, bi_is_prime⟩ := C_is_prime.ex
  refine F.ok sc_prime_below (len_prime_below (K := K)) (fun cdv A outer s H vs Q E hr h => ?_)
  have hl : vs.length = 1 := len_prime_below (K := K) vs H Q E h
  match vs, hl, h with
  | [v0], _, h => exact ⟨_, PSs.nox ((pss_cons (ps_set (i := 1) sc_prime_below.nd rfl (Or.inl rfl) (pe_op op_sub (L2.pv 0) pe_int)) (pss_cons (ps_while PassesOwn.never (pt_not (pt_val (pe_call G_is_prime (hr.mono (Nat.le_of_ble_eq_true rfl)) rfl g_is_prime kp_is_prime bi_is_prime .nil pass0 (pa_cons (L2.pv 1) pa_nil)))) (pss_one (ps_set (i := 1) sc_prime_below.nd rfl (Or.inl rfl) (pe_op op_sub (L2.pv 1) pe_int)))) (pss_one (ps_ret (L2.pv 1)))))), prom_ok (n := 1) (S := Unit) (Ret := (rIm K)) (As := fun i : Int => [.im (pv K i)]) (m := fun i => m_prime_below i) 1 (fun _ => rfl) rfl (fun number => (show RN (rIm K) _ (fun (s : Unit) => [.im (pv K number), .no]) (m_prime_below number) (fun (s : Unit) => [.no, .no]) from (rn_of (rt_seq (rp_asg (Γ := fun (s : Unit) => [.im (pv K number), .no]) (i := 1) (Γ' := fun found20 (s : Unit) => [.im (pv K number), .im (pv K found20)]) (em_pure fun _ => (ep_op (ep_var rfl) (ep_int (K := K)) o_sub)) (fun _ => rfl) fun _ _ => rfl) fun found20 => (rt_seq (rp_while (ΓL := fun (t21 : Int) (s : Unit) => [.im (pv K number), .im (pv K t21)]) (fun s => (.cons (.rfl _) (.cons (.rfl _) .nil))) (fun t21 => (tm_not (tm_B (em_of_eo (eo_call0 (i := t21) (ps := [pv K t21]) (fun _ => (ap_cons (ep_var rfl) ap_nil)) rfl))))) fun t21 => (rp_post (f := fun found23 => found23) (rp_asg (Γ := fun (s : Unit) => [.im (pv K number), .im (pv K t21)]) (i := 1) (Γ' := fun found23 (s : Unit) => [.im (pv K number), .im (pv K found23)]) (em_pure fun _ => (ep_op (ep_var rfl) (ep_int (K := K)) o_sub)) (fun _ => rfl) fun _ _ => rfl) fun found23 s => (.cons (.rfl _) (.cons (.rfl _) .nil)))) fun t24 => (rt_ret (em_pure fun _ => (ep_var rfl)) fun s => (.cons (.no _) (.cons (.no _) .nil)))))))) h⟩
theorem ok_prime_below {f : Addr} {fd : FuncData} (F : FnP K "prime_below" (top 24) f fd) (hg : mg "prime_below" = some (.ref f)) (C_is_prime : Cal P w K mg base 3 "is_prime" ["value"] (sp_is_prime K)) : Cal P w K mg base 4 "prime_below" ["number"] (sp_prime_below K) := ⟨f, fd, fo_prime_below F C_is_prime, hg, F.kp, F.bindsN fun _ _ _ _ _ _ us hl => match us, hl with | [_], _ => rfl⟩
def m_power_of (prime : Int) (number : Int) (times : Int) : Mn Unit Int :=
  (mb (mp ((1 : Int) : Int)) fun found25 =>
  (mb (whP 64 (number, times, found25) (fun (t26 : Int × Int × Int) => (mp (decide ((0 : Int) < t26.2.1)))) fun (t26 : Int × Int × Int) =>
    (mb (mb (mp (decide ((t26.2.1 % (2 : Int)) = (1 : Int)))) fun b => mi b
    (mb (mb (mc (mulOk t26.2.2 t26.1) (t26.2.2 * t26.1)) fun x_28 => mc (modOk prime) (x_28 % prime)) fun found30 => mp found30)
    (mp t26.2.2)) fun t27 =>
    (mb (mb (mb (mc (mulOk t26.1 t26.1) (t26.1 * t26.1)) fun x_31 => mc (modOk prime) (x_31 % prime)) fun x_34 => mb (mp ()) fun z35 => mp (x_34, z35)) fun z33 => mp (z33.1, (t26.2.1 / (2 : Int)), t27)))) fun t36 =>
  (mp t36.2.2)))
abbrev sp_power_of (K : PySem.W.Frag) : Sp := Prom (rIm K) (S := Unit) (fun i : Int × Int × Int => [.im (pv K i.1), .im (pv K i.2.1), .im (pv K i.2.2)]) fun i => m_power_of i.1 i.2.1 i.2.2
theorem len_power_of : ∀ vs H Q E, sp_power_of K vs H Q E → vs.length = 3 := prom_len (S := Unit) (Ret := (rIm K)) (As := fun i : Int × Int × Int => [.im (pv K i.1), .im (pv K i.2.1), .im (pv K i.2.2)]) (m := fun i => m_power_of i.1 i.2.1 i.2.2) fun _ => rfl
theorem sc_power_of : FnScope ["prime", "number", "times", "found"] ["prime", "number", "times"] (defScope (top 25)) := ⟨rfl, rfl, rfl, by decide +kernel, rfl, by decide +kernel, by decide +kernel⟩
theorem fo_power_of {f : Addr} {fd : FuncData} (F : FnP K "power_of" (top 25) f fd) : FnOk P w K mg base CX0 1 f fd ["prime", "number", "times"] (sp_power_of K) := by
  refine F.ok sc_power_of (len_power_of (K := K)) (fun cdv A outer s H vs Q E hr h => ?_)
  have hl : vs.length = 3 := len_power_of (K := K) vs H Q E h
  match vs, hl, h with
  | [v0, v1, v2], _, h => exact ⟨_, PSs.nox ((pss_cons (ps_set (i := 3) sc_power_of.nd rfl (Or.inl rfl) pe_int) (pss_cons (ps_while PassesOwn.never (pt_cmpR op_gt (L2.pv 2) pe_int (nomark _)) (pss_cons (ps_if (pt_cmpR op_eq (pe_op op_mod (L2.pv 2) pe_int) pe_int (nomark _)) (pss_one (ps_set (i := 3) sc_power_of.nd rfl (Or.inl rfl) (pe_op op_mod (pe_op op_mulW (L2.pv 3) (L2.pv 1)) (L2.pv 0)))) pss_nil) (pss_one (ps_par (i := 1) (j := 2) rfl sc_power_of.nd rfl rfl (by decide) rfl rfl (pa_cons (pe_op op_mod (pe_op op_mulW (L2.pv 1) (L2.pv 1)) (L2.pv 0)) (pa_cons (pe_op op_fdivW (L2.pv 2) pe_int) pa_nil)) rfl)))) (pss_one (ps_ret (L2.pv 3)))))), prom_ok (n := 3) (S := Unit) (Ret := (rIm K)) (As := fun i : Int × Int × Int => [.im (pv K i.1), .im (pv K i.2.1), .im (pv K i.2.2)]) (m := fun i => m_power_of i.1 i.2.1 i.2.2) 1 (fun _ => rfl) rfl (fun (prime, number, times) => (show RN (rIm K) _ (fun (s : Unit) => [.im (pv K prime), .im (pv K number), .im (pv K times), .no]) (m_power_of prime number times) (fun (s : Unit) => [.no, .no, .no, .no]) from (rn_of (rt_seq (rp_asg (Γ := fun (s : Unit) => [.im (pv K prime), .im (pv K number), .im (pv K times), .no]) (i := 3) (Γ' := fun found25 (s : Unit) => [.im (pv K prime), .im (pv K number), .im (pv K times), .im (pv K found25)]) (em_pure fun _ => (ep_int (K := K))) (fun _ => rfl) fun _ _ => rfl) fun found25 => (rt_seq (rp_while (ΓL := fun (t26 : Int × Int × Int) (s : Unit) => [.im (pv K prime), .im (pv K t26.1), .im (pv K t26.2.1), .im (pv K t26.2.2)]) (fun s => (.cons (.rfl _) (.cons (.rfl _) (.cons (.rfl _) (.cons (.rfl _) .nil))))) (fun t26 => (tm_pure fun _ => (tp_test (ep_op (ep_var rfl) (ep_int (K := K)) o_gt)))) fun t26 => (rp_seq (rp_if (Γ' := fun t27 (s : Unit) => [.im (pv K prime), .im (pv K t26.1), .im (pv K t26.2.1), .im (pv K t27)]) (tm_pure fun _ => (tp_test (ep_op (ep_op (ep_var rfl) (ep_int (K := K)) (o_mod rfl)) (ep_int (K := K)) o_eq))) (rp_post (f := fun found30 => found30) (rp_asg (Γ := fun (s : Unit) => [.im (pv K prime), .im (pv K t26.1), .im (pv K t26.2.1), .im (pv K t26.2.2)]) (i := 3) (Γ' := fun found30 (s : Unit) => [.im (pv K prime), .im (pv K t26.1), .im (pv K t26.2.1), .im (pv K found30)]) (em_oprC (g := fun (u : Int) (v : Int) => (u % v)) (c := fun (u : Int) (v : Int) => modOk v) (em_opC2 (fun _ => (ep_var rfl)) (fun _ => (ep_var rfl)) fun h => o_mulW h) (fun _ => (ep_var rfl)) fun _ h => (o_mod h)) (fun _ => rfl) fun _ _ => rfl) fun found30 s => (.cons (.rfl _) (.cons (.rfl _) (.cons (.rfl _) (.cons (.rfl _) .nil))))) (rp_next (x := t26.2.2) fun s => (.cons (.rfl _) (.cons (.rfl _) (.cons (.rfl _) (.cons (.rfl _) .nil)))))) fun t27 => (rp_post (f := fun z33 => (z33.1, (t26.2.1 / (2 : Int)), t27)) (rp_asg2 (Γ' := fun z33 (s : Unit) => [.im (pv K prime), .im (pv K z33.1), .im (pv K ((t26.2.1 / (2 : Int)) : Int)), .im (pv K t27)]) (ao_m (em_oprC (g := fun (u : Int) (v : Int) => (u % v)) (c := fun (u : Int) (v : Int) => modOk v) (em_opC2 (fun _ => (ep_var rfl)) (fun _ => (ep_var rfl)) fun h => o_mulW h) (fun _ => (ep_var rfl)) fun _ h => (o_mod h)) (ao_p (fun _ => (ep_op (ep_var rfl) (ep_int (K := K)) (o_divW rfl))) ao_nil)) (fun _ => asg_ok rfl) (fun _ => rfl) (fun _ => rfl) fun _ _ => rfl) fun z33 s => (.cons (.rfl _) (.cons (.rfl _) (.cons (.rfl _) (.cons (.rfl _) .nil))))))) fun t36 => (rt_ret (em_pure fun _ => (ep_var rfl)) fun s => (.cons (.no _) (.cons (.no _) (.cons (.no _) (.cons (.no _) .nil)))))))))) h⟩
theorem ok_power_of {f : Addr} {fd : FuncData} (F : FnP K "power_of" (top 25) f fd) (hg : mg "power_of" = some (.ref f)) : Cal P w K mg base 1 "power_of" ["prime", "number", "times"] (sp_power_of K) := ⟨f, fd, fo_power_of F, hg, F.kp, F.bindsN fun _ _ _ _ _ _ us hl => match us, hl with | [_, _, _], _ => rfl⟩
def m_inverse_of (prime : Int) (number : Int) : Mn Unit Int :=
  (mu (m_power_of prime number ((prime - (2 : Int)) : Int)))
abbrev sp_inverse_of (K : PySem.W.Frag) : Sp := Prom (rIm K) (S := Unit) (fun i : Int × Int => [.im (pv K i.1), .im (pv K i.2)]) fun i => m_inverse_of i.1 i.2
theorem len_inverse_of : ∀ vs H Q E, sp_inverse_of K vs H Q E → vs.length = 2 := prom_len (S := Unit) (Ret := (rIm K)) (As := fun i : Int × Int => [.im (pv K i.1), .im (pv K i.2)]) (m := fun i => m_inverse_of i.1 i.2) fun _ => rfl
theorem sc_inverse_of : FnScope ["prime", "number"] ["prime", "number"] (defScope (top 26)) := ⟨rfl, rfl, rfl, by decide +kernel, rfl, by decide +kernel, by decide +kernel⟩
theorem fo_inverse_of {f : Addr} {fd : FuncData} (F : FnP K "inverse_of" (top 26) f fd) (C_power_of : Cal P w K mg base 1 "power_of" ["prime", "number", "times"] (sp_power_of K)) : FnOk P w K mg base CX0 2 f fd ["prime", "number"] (sp_inverse_of K) := by
  obtain ⟨f_power_of, fd_power_of, G_power_of, g_power_of, kp_power_of, bi_power_of⟩ := C_power_of.ex
  refine F.ok sc_inverse_of (len_inverse_of (K := K)) (fun cdv A outer s H vs Q E hr h => ?_)
  have hl : vs.length = 2 := len_inverse_of (K := K) vs H Q E h
  match vs, hl, h with
  | [v0, v1], _, h => exact ⟨_, PSs.nox ((pss_one (ps_ret (pe_call G_power_of (hr.mono (Nat.le_of_ble_eq_true rfl)) rfl g_power_of kp_power_of bi_power_of .nil pass0 (pa_cons (L2.pv 0) (pa_cons (L2.pv 1) (pa_cons (pe_op op_sub (L2.pv 0) pe_int) pa_nil))))))), prom_ok (n := 2) (S := Unit) (Ret := (rIm K)) (As := fun i : Int × Int => [.im (pv K i.1), .im (pv K i.2)]) (m := fun i => m_inverse_of i.1 i.2) 0 (fun _ => rfl) rfl (fun (prime, number) => (show RN (rIm K) _ (fun (s : Unit) => [.im (pv K prime), .im (pv K number)]) (m_inverse_of prime number) (fun (s : Unit) => [.no, .no]) from (rn_of (rt_ret (em_of_eo (eo_call0 (i := (prime, number, ((prime - (2 : Int)) : Int))) (ps := [pv K prime, pv K number, pv K ((prime - (2 : Int)) : Int)]) (fun _ => (ap_cons (ep_var rfl) (ap_cons (ep_var rfl) (ap_cons (ep_op (ep_var rfl) (ep_int (K := K)) o_sub) ap_nil)))) rfl)) fun s => (.cons (.no _) (.cons (.no _) .nil)))))) h⟩
theorem ok_inverse_of {f : Addr} {fd : FuncData} (F : FnP K "inverse_of" (top 26) f fd) (hg : mg "inverse_of" = some (.ref f)) (C_power_of : Cal P w K mg base 1 "power_of" ["prime", "number", "times"] (sp_power_of K)) : Cal P w K mg base 2 "inverse_of" ["prime", "number"] (sp_inverse_of K) := ⟨f, fd, fo_inverse_of F C_power_of, hg, F.kp, F.bindsN fun _ _ _ _ _ _ us hl => match us, hl with | [_, _], _ => rfl⟩
def m_value_at (prime : Int) (data : (Sq Int)) (place : Int) : Mn Unit Int :=
  (mb (mp ((0 : Int) : Int)) fun found37 =>
  (mb (mb (mb (mp data) fun x => mp x.l.reverse) fun xs => forP xs found37 fun a39 (t38 : Int) =>
    (mb (mb (mb (mc (mulOk t38 place) (t38 * place)) fun x_40 => mp (x_40 + a39)) fun x_42 => mc (modOk prime) (x_42 % prime)) fun found44 => mp found44)) fun t45 =>
  (mp t45)))
abbrev sp_value_at (K : PySem.W.Frag) : Sp := Prom (rIm K) (S := Unit) (fun i : Int × (Sq Int) × Int => [.im (pv K i.1), .im (pv K i.2.1), .im (pv K i.2.2)]) fun i => m_value_at i.1 i.2.1 i.2.2
theorem len_value_at : ∀ vs H Q E, sp_value_at K vs H Q E → vs.length = 3 := prom_len (S := Unit) (Ret := (rIm K)) (As := fun i : Int × (Sq Int) × Int => [.im (pv K i.1), .im (pv K i.2.1), .im (pv K i.2.2)]) (m := fun i => m_value_at i.1 i.2.1 i.2.2) fun _ => rfl
theorem sc_value_at : FnScope ["prime", "data", "place", "found", "symbol"] ["prime", "data", "place"] (defScope (top 27)) := ⟨rfl, rfl, rfl, by decide +kernel, rfl, by decide +kernel, by decide +kernel⟩
theorem fo_value_at {f : Addr} {fd : FuncData} (F : FnP K "value_at" (top 27) f fd) (b_reversed : mg "reversed" = none) : FnOk P w K mg base CX0 1 f fd ["prime", "data", "place"] (sp_value_at K) := by
  refine F.ok sc_value_at (len_value_at (K := K)) (fun cdv A outer s H vs Q E hr h => ?_)
  have hl : vs.length = 3 := len_value_at (K := K) vs H Q E h
  match vs, hl, h with
  | [v0, v1, v2], _, h => exact ⟨_, PSs.nox ((pss_cons (ps_set (i := 3) sc_value_at.nd rfl (Or.inl rfl) pe_int) (pss_cons (ps_for PassesOwn.never rfl (RT.pi_revA rfl b_reversed (L2.pv 1)) (pg_name (i := 4) sc_value_at.nd rfl (Or.inl rfl)) (pss_one (ps_set (i := 3) sc_value_at.nd rfl (Or.inl rfl) (pe_op op_mod (pe_op op_add (pe_op op_mulW (L2.pv 3) (L2.pv 2)) (L2.pv 4)) (L2.pv 0))))) (pss_one (ps_ret (L2.pv 3)))))), prom_ok (n := 3) (S := Unit) (Ret := (rIm K)) (As := fun i : Int × (Sq Int) × Int => [.im (pv K i.1), .im (pv K i.2.1), .im (pv K i.2.2)]) (m := fun i => m_value_at i.1 i.2.1 i.2.2) 2 (fun _ => rfl) rfl (fun (prime, data, place) => (show RN (rIm K) _ (fun (s : Unit) => [.im (pv K prime), .im (pv K data), .im (pv K place), .no, .no]) (m_value_at prime data place) (fun (s : Unit) => [.no, .no, .no, .no, .no]) from (rn_of (rt_seq (rp_asg (Γ := fun (s : Unit) => [.im (pv K prime), .im (pv K data), .im (pv K place), .no, .no]) (i := 3) (Γ' := fun found37 (s : Unit) => [.im (pv K prime), .im (pv K data), .im (pv K place), .im (pv K found37), .no]) (em_pure fun _ => (ep_int (K := K))) (fun _ => rfl) fun _ _ => rfl) fun found37 => (rt_seq (rp_for (ΓL := fun (t38 : Int) (s : Unit) => [.im (pv K prime), .im (pv K data), .im (pv K place), .im (pv K t38), .no]) (Γx := fun (a39 : Int) (t38 : Int) (s : Unit) => [.im (pv K prime), .im (pv K data), .im (pv K place), .im (pv K t38), .im (pv K a39)]) (im_rev (em_pure fun _ => (ep_var rfl))) (fun s => (.cons (.rfl _) (.cons (.rfl _) (.cons (.rfl _) (.cons (.rfl _) (.cons (.rfl _) .nil)))))) (fun a39 t38 s => (gt_name (Γ := [.im (pv K prime), .im (pv K data), .im (pv K place), .im (pv K t38), .no]) (i := 4) (Γ' := [.im (pv K prime), .im (pv K data), .im (pv K place), .im (pv K t38), .im (pv K a39)]) rfl rfl)) fun a39 t38 => (rp_post (f := fun found44 => found44) (rp_asg (Γ := fun (s : Unit) => [.im (pv K prime), .im (pv K data), .im (pv K place), .im (pv K t38), .im (pv K a39)]) (i := 3) (Γ' := fun found44 (s : Unit) => [.im (pv K prime), .im (pv K data), .im (pv K place), .im (pv K found44), .im (pv K a39)]) (em_oprC (g := fun (u : Int) (v : Int) => (u % v)) (c := fun (u : Int) (v : Int) => modOk v) (em_opr (g := fun (u : Int) (v : Int) => (u + v)) (em_opC2 (fun _ => (ep_var rfl)) (fun _ => (ep_var rfl)) fun h => o_mulW h) (fun _ => (ep_var rfl)) fun _ => o_add) (fun _ => (ep_var rfl)) fun _ h => (o_mod h)) (fun _ => rfl) fun _ _ => rfl) fun found44 s => (.cons (.rfl _) (.cons (.rfl _) (.cons (.rfl _) (.cons (.rfl _) (.cons (.no _) .nil))))))) fun t45 => (rt_ret (em_pure fun _ => (ep_var rfl)) fun s => (.cons (.no _) (.cons (.no _) (.cons (.no _) (.cons (.no _) (.cons (.rfl _) .nil))))))))))) h⟩
theorem ok_value_at {f : Addr} {fd : FuncData} (F : FnP K "value_at" (top 27) f fd) (hg : mg "value_at" = some (.ref f)) (b_reversed : mg "reversed" = none) : Cal P w K mg base 1 "value_at" ["prime", "data", "place"] (sp_value_at K) := ⟨f, fd, fo_value_at F b_reversed, hg, F.kp, F.bindsN fun _ _ _ _ _ _ us hl => match us, hl with | [_, _, _], _ => rfl⟩
def m_data_through (prime : Int) (points : (List (Int × Int))) : Mn Unit (Tu Int) :=
  (mb (mp ()) fun z46 =>
  (mb (mb (mp points) fun xs => forP xs (([] : (List Int)), ([(1 : Int)] : (List Int))) fun a48 (t47 : (List Int) × (List Int)) =>
    (mb (mb (mu (m_value_at prime ((Sq.mk false t47.1) : (Sq Int)) a48.1)) fun y50 => mp (a48.2 - y50)) fun missing51 =>
    (mb (mb (mb (mb (mb (mp prime) fun x_54 => mb (mb (mu (m_value_at prime ((Sq.mk false t47.2) : (Sq Int)) a48.1)) fun x_52 => mb (mp ()) fun z53 => mp (x_52, z53)) fun z55 => mp (x_54, z55)) fun z56 => (mu (m_inverse_of z56.1 z56.2.1))) fun y58 => mc (mulOk missing51 y58) (missing51 * y58)) fun x_59 => mc (modOk prime) (x_59 % prime)) fun factor61 =>
    (mb (mb (mb (mb (mb (mb (mp ((Sq.mk false t47.1) : (Sq Int))) fun x_64 => mb (mb (mp ((0 : Int) : Int)) fun x_62 => mb (mp []) fun z63 => mp (x_62 :: z63)) fun z65 => mp (x_64.l ++ z65)) fun xs => mc (lenOk xs.length) xs) fun x_68 => mb (mb (mp t47.2) fun x_66 => mb (mp ()) fun z67 => mp (x_66, z67)) fun z69 => mp (x_68, z69)) fun z70 => mp (z70.1.zip z70.2.1)) fun xs => cmP xs (fun (a71 : (Int × Int)) => (mp true)) fun a71 => (mb (mb (mc (mulOk factor61 a71.2) (factor61 * a71.2)) fun y73 => mp (a71.1 + y73)) fun x_74 => mc (modOk prime) (x_74 % prime))) fun found76 =>
    (mb (mb (mb (mb (mb (mb (mp ((0 : Int) : Int)) fun x_79 => mb (mb (mp ((Sq.mk false t47.2) : (Sq Int))) fun x_77 => mb (mp []) fun z78 => mp (x_77.l ++ z78)) fun z80 => mp (x_79 :: z80)) fun xs => mc (lenOk xs.length) xs) fun x_87 => mb (mb (mb (mb (mp ((Sq.mk false t47.2) : (Sq Int))) fun x_83 => mb (mb (mp ((0 : Int) : Int)) fun x_81 => mb (mp []) fun z82 => mp (x_81 :: z82)) fun z84 => mp (x_83.l ++ z84)) fun xs => mc (lenOk xs.length) xs) fun x_85 => mb (mp ()) fun z86 => mp (x_85, z86)) fun z88 => mp (x_87, z88)) fun z89 => mp (z89.1.zip z89.2.1)) fun xs => cmP xs (fun (a90 : (Int × Int)) => (mp true)) fun a90 => (mb (mb (mc (mulOk a48.1 a90.2) (a48.1 * a90.2)) fun y92 => mp (a90.1 - y92)) fun x_93 => mc (modOk prime) (x_93 % prime))) fun base_95 => mp (found76, base_95)))))) fun t96 =>
  (mp ((Tu.mk t96.1) : (Tu Int)))))
abbrev sp_data_through (K : PySem.W.Frag) : Sp := Prom (rIm K) (S := Unit) (fun i : Int × (List (Int × Int)) => [.im (pv K i.1), .im (pv K i.2)]) fun i => m_data_through i.1 i.2
theorem len_data_through : ∀ vs H Q E, sp_data_through K vs H Q E → vs.length = 2 := prom_len (S := Unit) (Ret := (rIm K)) (As := fun i : Int × (List (Int × Int)) => [.im (pv K i.1), .im (pv K i.2)]) (m := fun i => m_data_through i.1 i.2) fun _ => rfl
theorem sc_data_through : FnScope ["prime", "points", "found", "base", "place", "symbol", "missing", "factor", "one", "other"] ["prime", "points"] (defScope (top 28)) := ⟨rfl, rfl, rfl, by decide +kernel, rfl, by decide +kernel, by decide +kernel⟩
theorem fo_data_through {f : Addr} {fd : FuncData} (F : FnP K "data_through" (top 28) f fd) (b_tuple : mg "tuple" = none) (b_zip : mg "zip" = none) (C_value_at : Cal P w K mg base 1 "value_at" ["prime", "data", "place"] (sp_value_at K)) (C_inverse_of : Cal P w K mg base 2 "inverse_of" ["prime", "number"] (sp_inverse_of K)) : FnOk P w K mg base CX0 3 f fd ["prime", "points"] (sp_data_through K) := by
  obtain ⟨f_value_at, fd_value_at, G_value_at, g_value_at, kp_value_at, bi_value_at⟩ := C_value_at.ex
  obtain ⟨f_inverse_of, fd_inverse_of, G_inverse_of, g_inverse_of, kp_inverse_of, bi_inverse_of⟩ := C_inverse_of.ex
  refine F.ok sc_data_through (len_data_through (K := K)) (fun cdv A outer s H vs Q E hr h => ?_)
  have hl : vs.length = 2 := len_data_through (K := K) vs H Q E h
  match vs, hl, h with
  | [v0, v1], _, h => exact ⟨_, PSs.nox ((pss_cons (ps_par (i := 2) (j := 3) rfl sc_data_through.nd rfl rfl (by decide) rfl rfl (pa_cons (pe_lst pa_nil) (pa_cons (pe_lst (pa_cons pe_int pa_nil)) pa_nil)) rfl) (pss_cons (ps_for PassesOwn.never rfl (pi_list (L2.pv 1)) (pg_tup (n := 2) rfl (pgs_cons (pg_name (i := 4) sc_data_through.nd rfl (Or.inr rfl)) (pgs_cons (pg_name (i := 5) sc_data_through.nd rfl (Or.inl rfl)) pgs_nil))) (pss_cons (ps_set (i := 6) sc_data_through.nd rfl (Or.inl rfl) (pe_op op_sub (L2.pv 5) (pe_call G_value_at (hr.mono (Nat.le_of_ble_eq_true rfl)) rfl g_value_at kp_value_at bi_value_at .nil pass0 (pa_cons (L2.pv 0) (pa_cons (L2.pv 2) (pa_cons (L2.pv 4) pa_nil)))))) (pss_cons (ps_set (i := 7) sc_data_through.nd rfl (Or.inr rfl) (pe_op op_mod (pe_op op_mulW (L2.pv 6) (pe_call G_inverse_of (hr.mono (Nat.le_of_ble_eq_true rfl)) rfl g_inverse_of kp_inverse_of bi_inverse_of .nil pass0 (pa_cons (L2.pv 0) (pa_cons (pe_call G_value_at (hr.mono (Nat.le_of_ble_eq_true rfl)) rfl g_value_at kp_value_at bi_value_at .nil pass0 (pa_cons (L2.pv 0) (pa_cons (L2.pv 3) (pa_cons (L2.pv 4) pa_nil)))) pa_nil)))) (L2.pv 0))) (pss_cons (ps_setLc (i := 2) (own := [("one", 8), ("other", 9)]) rfl sc_data_through.nd rfl rfl (sw_true rfl rfl rfl (by decide +kernel)) (pi_zip rfl b_zip (pa_cons (pe_lst (StX.pa_star (L2.pv 2) (pa_cons pe_int pa_nil))) (pa_cons (L2.pv 3) pa_nil))) (blkOk_by (own := [("one", 8), ("other", 9)]) (N := ["prime", "points", "found", "base", "place", "symbol", "missing", "factor", "one", "other"]) (sc := defScope (top 28)) (by decide +kernel)) (fun _ _ _ _ _ => (pg_tup (n := 2) rfl (pgs_cons (pg_name (i := 8) sc_data_through.nd rfl (Or.inl rfl)) (pgs_cons (pg_name (i := 9) sc_data_through.nd rfl (Or.inl rfl)) pgs_nil)))) (fun _ _ _ _ _ => pts_nil) (fun _ _ _ _ _ => (pe_op op_mod (pe_op op_add (L2.pv 8) (pe_op op_mulW (L2.pv 7) (L2.pv 9))) (L2.pv 0)))) (pss_one (ps_setLc (i := 3) (own := [("one", 8), ("other", 9)]) rfl sc_data_through.nd rfl rfl (sw_true rfl rfl rfl (by decide +kernel)) (pi_zip rfl b_zip (pa_cons (pe_lst (pa_cons pe_int (StX.pa_star (L2.pv 3) pa_nil))) (pa_cons (pe_lst (StX.pa_star (L2.pv 3) (pa_cons pe_int pa_nil))) pa_nil))) (blkOk_by (own := [("one", 8), ("other", 9)]) (N := ["prime", "points", "found", "base", "place", "symbol", "missing", "factor", "one", "other"]) (sc := defScope (top 28)) (by decide +kernel)) (fun _ _ _ _ _ => (pg_tup (n := 2) rfl (pgs_cons (pg_name (i := 8) sc_data_through.nd rfl (Or.inl rfl)) (pgs_cons (pg_name (i := 9) sc_data_through.nd rfl (Or.inl rfl)) pgs_nil)))) (fun _ _ _ _ _ => pts_nil) (fun _ _ _ _ _ => (pe_op op_mod (pe_op op_sub (L2.pv 8) (pe_op op_mulW (L2.pv 4) (L2.pv 9))) (L2.pv 0))))))))) (pss_one (ps_ret (pe_callTy call_tuple_of rfl b_tuple bt_tuple (pa_cons (L2.pv 2) pa_nil))))))), prom_ok (n := 2) (S := Unit) (Ret := (rIm K)) (As := fun i : Int × (List (Int × Int)) => [.im (pv K i.1), .im (pv K i.2)]) (m := fun i => m_data_through i.1 i.2) 8 (fun _ => rfl) rfl (fun (prime, points) => (show RN (rIm K) _ (fun (s : Unit) => [.im (pv K prime), .im (pv K points), .no, .no, .no, .no, .no, .no, .no, .no]) (m_data_through prime points) (fun (s : Unit) => [.no, .no, .no, .no, .no, .no, .no, .no, .no, .no]) from (rn_of (rt_seq (rp_asg2 (Γ' := fun z46 (s : Unit) => [.im (pv K prime), .im (pv K points), .im (pv K (([] : (List Int)) : (List Int))), .im (pv K (([(1 : Int)] : (List Int)) : (List Int))), .no, .no, .no, .no, .no, .no]) (ao_p (fun _ => (ep_lst (xs := ([] : (List Int))) (hl := Nat.le_of_ble_eq_true rfl) ap_nil)) (ao_p (fun _ => (ep_lst (xs := ([(1 : Int)] : (List Int))) (hl := Nat.le_of_ble_eq_true rfl) (ap_cons (ep_int (K := K)) ap_nil))) ao_nil)) (fun _ => asg_ok rfl) (fun _ => rfl) (fun _ => rfl) fun _ _ => rfl) fun z46 => (rt_seq (rp_for (ΓL := fun (t47 : (List Int) × (List Int)) (s : Unit) => [.im (pv K prime), .im (pv K points), .im (pv K t47.1), .im (pv K t47.2), .no, .no, .no, .no, .no, .no]) (Γx := fun (a48 : (Int × Int)) (t47 : (List Int) × (List Int)) (s : Unit) => [.im (pv K prime), .im (pv K points), .im (pv K t47.1), .im (pv K t47.2), .im (pv K a48.1), .im (pv K a48.2), .no, .no, .no, .no]) (im_list fun _ => (ep_var rfl)) (fun s => (.cons (.rfl _) (.cons (.rfl _) (.cons (.rfl _) (.cons (.rfl _) (.cons (.rfl _) (.cons (.rfl _) (.cons (.rfl _) (.cons (.rfl _) (.cons (.rfl _) (.cons (.rfl _) .nil))))))))))) (fun a48 t47 s => (gt_2 (gt_name (Γ := [.im (pv K prime), .im (pv K points), .im (pv K t47.1), .im (pv K t47.2), .no, .no, .no, .no, .no, .no]) (i := 4) (Γ' := [.im (pv K prime), .im (pv K points), .im (pv K t47.1), .im (pv K t47.2), .im (pv K a48.1), .no, .no, .no, .no, .no]) rfl rfl) (gt_name (Γ := [.im (pv K prime), .im (pv K points), .im (pv K t47.1), .im (pv K t47.2), .im (pv K a48.1), .no, .no, .no, .no, .no]) (i := 5) (Γ' := [.im (pv K prime), .im (pv K points), .im (pv K t47.1), .im (pv K t47.2), .im (pv K a48.1), .im (pv K a48.2), .no, .no, .no, .no]) rfl rfl))) fun a48 t47 => (rp_seq (rp_asg (Γ := fun (s : Unit) => [.im (pv K prime), .im (pv K points), .im (pv K t47.1), .im (pv K t47.2), .im (pv K a48.1), .im (pv K a48.2), .no, .no, .no, .no]) (i := 6) (Γ' := fun missing51 (s : Unit) => [.im (pv K prime), .im (pv K points), .im (pv K t47.1), .im (pv K t47.2), .im (pv K a48.1), .im (pv K a48.2), .im (pv K missing51), .no, .no, .no]) (em_opl (g := fun (u : Int) (v : Int) => (u - v)) (fun _ => (ep_var rfl)) (em_of_eo (eo_call0 (i := (prime, ((Sq.mk false t47.1) : (Sq Int)), a48.1)) (ps := [pv K prime, pv K ((Sq.mk false t47.1) : (Sq Int)), pv K a48.1]) (fun _ => (ap_cons (ep_var rfl) (ap_cons (ep_sqL (ep_var rfl)) (ap_cons (ep_var rfl) ap_nil)))) rfl)) fun _ => o_sub) (fun _ => rfl) fun _ _ => rfl) fun missing51 => (rp_seq (rp_asg (Γ := fun (s : Unit) => [.im (pv K prime), .im (pv K points), .im (pv K t47.1), .im (pv K t47.2), .im (pv K a48.1), .im (pv K a48.2), .im (pv K missing51), .no, .no, .no]) (i := 7) (Γ' := fun factor61 (s : Unit) => [.im (pv K prime), .im (pv K points), .im (pv K t47.1), .im (pv K t47.2), .im (pv K a48.1), .im (pv K a48.2), .im (pv K missing51), .im (pv K factor61), .no, .no]) (em_oprC (g := fun (u : Int) (v : Int) => (u % v)) (c := fun (u : Int) (v : Int) => modOk v) (em_oplC (g := fun (u : Int) (v : Int) => (u * v)) (c := fun (u : Int) (v : Int) => mulOk u v) (fun _ => (ep_var rfl)) (em_of_eo (eo_call0M (f := fun (z56 : Int × Int × Unit) => (z56.1, z56.2.1)) (am_cons (em_pure fun _ => (ep_var rfl)) (am_cons (em_of_eo (eo_call0 (i := (prime, ((Sq.mk false t47.2) : (Sq Int)), a48.1)) (ps := [pv K prime, pv K ((Sq.mk false t47.2) : (Sq Int)), pv K a48.1]) (fun _ => (ap_cons (ep_var rfl) (ap_cons (ep_sqL (ep_var rfl)) (ap_cons (ep_var rfl) ap_nil)))) rfl)) am_nil)) fun _ => rfl)) fun _ h => (o_mulW h)) (fun _ => (ep_var rfl)) fun _ h => (o_mod h)) (fun _ => rfl) fun _ _ => rfl) fun factor61 => (rp_seq (rp_asg (Γ := fun (s : Unit) => [.im (pv K prime), .im (pv K points), .im (pv K t47.1), .im (pv K t47.2), .im (pv K a48.1), .im (pv K a48.2), .im (pv K missing51), .im (pv K factor61), .no, .no]) (i := 2) (Γ' := fun found76 (s : Unit) => [.im (pv K prime), .im (pv K points), .im (pv K found76), .im (pv K t47.2), .im (pv K a48.1), .im (pv K a48.2), .im (pv K missing51), .im (pv K factor61), .no, .no]) (em_lc (Γx := fun (a71 : (Int × Int)) (s : Unit) => [.im (pv K prime), .im (pv K points), .im (pv K t47.1), .im (pv K t47.2), .im (pv K a48.1), .im (pv K a48.2), .im (pv K missing51), .im (pv K factor61), .im (pv K a71.1), .im (pv K a71.2)]) (js := [8, 9]) (im_zip (f := fun (z70 : (List Int) × (List Int) × Unit) => z70.1) (g := fun (z70 : (List Int) × (List Int) × Unit) => z70.2.1) (am_cons (em_ownL (eo_lstS (al_star (em_pure fun _ => (ep_sqL (ep_var rfl))) (al_cons (em_pure fun _ => (ep_int (K := K))) al_nil)))) (am_cons (em_pure fun _ => (ep_var rfl)) am_nil))) (fun _ => rfl) (fun a71 s => (gt_2 (gt_name (Γ := [.im (pv K prime), .im (pv K points), .im (pv K t47.1), .im (pv K t47.2), .im (pv K a48.1), .im (pv K a48.2), .im (pv K missing51), .im (pv K factor61), .no, .no]) (i := 8) (Γ' := [.im (pv K prime), .im (pv K points), .im (pv K t47.1), .im (pv K t47.2), .im (pv K a48.1), .im (pv K a48.2), .im (pv K missing51), .im (pv K factor61), .im (pv K a71.1), .no]) rfl rfl) (gt_name (Γ := [.im (pv K prime), .im (pv K points), .im (pv K t47.1), .im (pv K t47.2), .im (pv K a48.1), .im (pv K a48.2), .im (pv K missing51), .im (pv K factor61), .im (pv K a71.1), .no]) (i := 9) (Γ' := [.im (pv K prime), .im (pv K points), .im (pv K t47.1), .im (pv K t47.2), .im (pv K a48.1), .im (pv K a48.2), .im (pv K missing51), .im (pv K factor61), .im (pv K a71.1), .im (pv K a71.2)]) rfl rfl))) rfl (fun a71 => tm_yes) (fun a71 => (em_oprC (g := fun (u : Int) (v : Int) => (u % v)) (c := fun (u : Int) (v : Int) => modOk v) (em_opl (g := fun (u : Int) (v : Int) => (u + v)) (fun _ => (ep_var rfl)) (em_opC2 (fun _ => (ep_var rfl)) (fun _ => (ep_var rfl)) fun h => o_mulW h) fun _ => o_add) (fun _ => (ep_var rfl)) fun _ h => (o_mod h))) fun a71 s => (.cons (.rfl _) (.cons (.rfl _) (.cons (.rfl _) (.cons (.rfl _) (.cons (.rfl _) (.cons (.rfl _) (.cons (.rfl _) (.cons (.rfl _) (.cons (.no _) (.cons (.no _) .nil))))))))))) (fun _ => rfl) fun _ _ => rfl) fun found76 => (rp_post (f := fun base_95 => (found76, base_95)) (rp_asg (Γ := fun (s : Unit) => [.im (pv K prime), .im (pv K points), .im (pv K found76), .im (pv K t47.2), .im (pv K a48.1), .im (pv K a48.2), .im (pv K missing51), .im (pv K factor61), .no, .no]) (i := 3) (Γ' := fun base_95 (s : Unit) => [.im (pv K prime), .im (pv K points), .im (pv K found76), .im (pv K base_95), .im (pv K a48.1), .im (pv K a48.2), .im (pv K missing51), .im (pv K factor61), .no, .no]) (em_lc (Γx := fun (a90 : (Int × Int)) (s : Unit) => [.im (pv K prime), .im (pv K points), .im (pv K found76), .im (pv K t47.2), .im (pv K a48.1), .im (pv K a48.2), .im (pv K missing51), .im (pv K factor61), .im (pv K a90.1), .im (pv K a90.2)]) (js := [8, 9]) (im_zip (f := fun (z89 : (List Int) × (List Int) × Unit) => z89.1) (g := fun (z89 : (List Int) × (List Int) × Unit) => z89.2.1) (am_cons (em_ownL (eo_lstS (al_cons (em_pure fun _ => (ep_int (K := K))) (al_star (em_pure fun _ => (ep_sqL (ep_var rfl))) al_nil)))) (am_cons (em_ownL (eo_lstS (al_star (em_pure fun _ => (ep_sqL (ep_var rfl))) (al_cons (em_pure fun _ => (ep_int (K := K))) al_nil)))) am_nil))) (fun _ => rfl) (fun a90 s => (gt_2 (gt_name (Γ := [.im (pv K prime), .im (pv K points), .im (pv K found76), .im (pv K t47.2), .im (pv K a48.1), .im (pv K a48.2), .im (pv K missing51), .im (pv K factor61), .no, .no]) (i := 8) (Γ' := [.im (pv K prime), .im (pv K points), .im (pv K found76), .im (pv K t47.2), .im (pv K a48.1), .im (pv K a48.2), .im (pv K missing51), .im (pv K factor61), .im (pv K a90.1), .no]) rfl rfl) (gt_name (Γ := [.im (pv K prime), .im (pv K points), .im (pv K found76), .im (pv K t47.2), .im (pv K a48.1), .im (pv K a48.2), .im (pv K missing51), .im (pv K factor61), .im (pv K a90.1), .no]) (i := 9) (Γ' := [.im (pv K prime), .im (pv K points), .im (pv K found76), .im (pv K t47.2), .im (pv K a48.1), .im (pv K a48.2), .im (pv K missing51), .im (pv K factor61), .im (pv K a90.1), .im (pv K a90.2)]) rfl rfl))) rfl (fun a90 => tm_yes) (fun a90 => (em_oprC (g := fun (u : Int) (v : Int) => (u % v)) (c := fun (u : Int) (v : Int) => modOk v) (em_opl (g := fun (u : Int) (v : Int) => (u - v)) (fun _ => (ep_var rfl)) (em_opC2 (fun _ => (ep_var rfl)) (fun _ => (ep_var rfl)) fun h => o_mulW h) fun _ => o_sub) (fun _ => (ep_var rfl)) fun _ h => (o_mod h))) fun a90 s => (.cons (.rfl _) (.cons (.rfl _) (.cons (.rfl _) (.cons (.rfl _) (.cons (.rfl _) (.cons (.rfl _) (.cons (.rfl _) (.cons (.rfl _) (.cons (.no _) (.cons (.no _) .nil))))))))))) (fun _ => rfl) fun _ _ => rfl) fun base_95 s => (.cons (.rfl _) (.cons (.rfl _) (.cons (.rfl _) (.cons (.rfl _) (.cons (.no _) (.cons (.no _) (.cons (.no _) (.cons (.no _) (.cons (.rfl _) (.cons (.rfl _) .nil))))))))))))))) fun t96 => (rt_ret (em_pure fun _ => (ep_cb (ap_cons (ep_var rfl) ap_nil) c_tupL)) fun s => (.cons (.no _) (.cons (.no _) (.cons (.no _) (.cons (.no _) (.cons (.rfl _) (.cons (.rfl _) (.cons (.rfl _) (.cons (.rfl _) (.cons (.rfl _) (.cons (.rfl _) .nil)))))))))))))))) h⟩
theorem ok_data_through {f : Addr} {fd : FuncData} (F : FnP K "data_through" (top 28) f fd) (hg : mg "data_through" = some (.ref f)) (b_tuple : mg "tuple" = none) (b_zip : mg "zip" = none) (C_value_at : Cal P w K mg base 1 "value_at" ["prime", "data", "place"] (sp_value_at K)) (C_inverse_of : Cal P w K mg base 2 "inverse_of" ["prime", "number"] (sp_inverse_of K)) : Cal P w K mg base 3 "data_through" ["prime", "points"] (sp_data_through K) := ⟨f, fd, fo_data_through F b_tuple b_zip C_value_at C_inverse_of, hg, F.kp, F.bindsN fun _ _ _ _ _ _ us hl => match us, hl with | [_, _], _ => rfl⟩
def m_number_from (row : (Tu Int)) (base_ : Int) : Mn Unit Int :=
  (mb (mp ((0 : Int) : Int)) fun found97 =>
  (mb (mb (mp row.l) fun xs => forP xs found97 fun a99 (t98 : Int) =>
    (mb (mb (mc (mulOk t98 base_) (t98 * base_)) fun x_100 => mp (x_100 + a99)) fun found102 => mp found102)) fun t103 =>
  (mp t103)))
abbrev sp_number_from (K : PySem.W.Frag) : Sp := Prom (rIm K) (S := Unit) (fun i : (Tu Int) × Int => [.im (pv K i.1), .im (pv K i.2)]) fun i => m_number_from i.1 i.2
theorem len_number_from : ∀ vs H Q E, sp_number_from K vs H Q E → vs.length = 2 := prom_len (S := Unit) (Ret := (rIm K)) (As := fun i : (Tu Int) × Int => [.im (pv K i.1), .im (pv K i.2)]) (m := fun i => m_number_from i.1 i.2) fun _ => rfl
theorem sc_number_from : FnScope ["row", "base", "found", "figure"] ["row", "base"] (defScope (top 29)) := ⟨rfl, rfl, rfl, by decide +kernel, rfl, by decide +kernel, by decide +kernel⟩
theorem fo_number_from {f : Addr} {fd : FuncData} (F : FnP K "number_from" (top 29) f fd) : FnOk P w K mg base CX0 1 f fd ["row", "base"] (sp_number_from K) := by
  refine F.ok sc_number_from (len_number_from (K := K)) (fun cdv A outer s H vs Q E hr h => ?_)
  have hl : vs.length = 2 := len_number_from (K := K) vs H Q E h
  match vs, hl, h with
  | [v0, v1], _, h => exact ⟨_, PSs.nox ((pss_cons (ps_set (i := 2) sc_number_from.nd rfl (Or.inl rfl) pe_int) (pss_cons (ps_for PassesOwn.never rfl (pi_tup (L2.pv 0)) (pg_name (i := 3) sc_number_from.nd rfl (Or.inl rfl)) (pss_one (ps_set (i := 2) sc_number_from.nd rfl (Or.inl rfl) (pe_op op_add (pe_op op_mulW (L2.pv 2) (L2.pv 1)) (L2.pv 3))))) (pss_one (ps_ret (L2.pv 2)))))), prom_ok (n := 2) (S := Unit) (Ret := (rIm K)) (As := fun i : (Tu Int) × Int => [.im (pv K i.1), .im (pv K i.2)]) (m := fun i => m_number_from i.1 i.2) 2 (fun _ => rfl) rfl (fun (row, base_) => (show RN (rIm K) _ (fun (s : Unit) => [.im (pv K row), .im (pv K base_), .no, .no]) (m_number_from row base_) (fun (s : Unit) => [.no, .no, .no, .no]) from (rn_of (rt_seq (rp_asg (Γ := fun (s : Unit) => [.im (pv K row), .im (pv K base_), .no, .no]) (i := 2) (Γ' := fun found97 (s : Unit) => [.im (pv K row), .im (pv K base_), .im (pv K found97), .no]) (em_pure fun _ => (ep_int (K := K))) (fun _ => rfl) fun _ _ => rfl) fun found97 => (rt_seq (rp_for (ΓL := fun (t98 : Int) (s : Unit) => [.im (pv K row), .im (pv K base_), .im (pv K t98), .no]) (Γx := fun (a99 : Int) (t98 : Int) (s : Unit) => [.im (pv K row), .im (pv K base_), .im (pv K t98), .im (pv K a99)]) (im_tup fun _ => (ep_var rfl)) (fun s => (.cons (.rfl _) (.cons (.rfl _) (.cons (.rfl _) (.cons (.rfl _) .nil))))) (fun a99 t98 s => (gt_name (Γ := [.im (pv K row), .im (pv K base_), .im (pv K t98), .no]) (i := 3) (Γ' := [.im (pv K row), .im (pv K base_), .im (pv K t98), .im (pv K a99)]) rfl rfl)) fun a99 t98 => (rp_post (f := fun found102 => found102) (rp_asg (Γ := fun (s : Unit) => [.im (pv K row), .im (pv K base_), .im (pv K t98), .im (pv K a99)]) (i := 2) (Γ' := fun found102 (s : Unit) => [.im (pv K row), .im (pv K base_), .im (pv K found102), .im (pv K a99)]) (em_opr (g := fun (u : Int) (v : Int) => (u + v)) (em_opC2 (fun _ => (ep_var rfl)) (fun _ => (ep_var rfl)) fun h => o_mulW h) (fun _ => (ep_var rfl)) fun _ => o_add) (fun _ => rfl) fun _ _ => rfl) fun found102 s => (.cons (.rfl _) (.cons (.rfl _) (.cons (.rfl _) (.cons (.no _) .nil)))))) fun t103 => (rt_ret (em_pure fun _ => (ep_var rfl)) fun s => (.cons (.no _) (.cons (.no _) (.cons (.no _) (.cons (.rfl _) .nil)))))))))) h⟩
theorem ok_number_from {f : Addr} {fd : FuncData} (F : FnP K "number_from" (top 29) f fd) (hg : mg "number_from" = some (.ref f)) : Cal P w K mg base 1 "number_from" ["row", "base"] (sp_number_from K) := ⟨f, fd, fo_number_from F, hg, F.kp, F.bindsN fun _ _ _ _ _ _ us hl => match us, hl with | [_, _], _ => rfl⟩
def m_figures (number : Int) (base_ : Int) (many : Int) : Mn Unit (Tu Int) :=
  (mb (mp ([] : (List Int))) fun found104 =>
  (mb (mb (mc (b62 many) (rng 0 many.toNat)) fun xs => forP xs (number, found104) fun a106 (t105 : Int × (List Int)) =>
    (mb (mb (mc (modOk base_) (t105.1 % base_)) fun x_108 => mc (lenOk t105.2.length) (t105.2 ++ [x_108])) fun found107 =>
    (mb (mc (divOk base_) (t105.1 / base_)) fun number109 => mp (number109, found107)))) fun t110 =>
  (mb (mp t110.2) fun xs => mp (Tu.mk xs.reverse))))
abbrev sp_figures (K : PySem.W.Frag) : Sp := Prom (rIm K) (S := Unit) (fun i : Int × Int × Int => [.im (pv K i.1), .im (pv K i.2.1), .im (pv K i.2.2)]) fun i => m_figures i.1 i.2.1 i.2.2
theorem len_figures : ∀ vs H Q E, sp_figures K vs H Q E → vs.length = 3 := prom_len (S := Unit) (Ret := (rIm K)) (As := fun i : Int × Int × Int => [.im (pv K i.1), .im (pv K i.2.1), .im (pv K i.2.2)]) (m := fun i => m_figures i.1 i.2.1 i.2.2) fun _ => rfl
theorem sc_figures : FnScope ["number", "base", "many", "found", "_"] ["number", "base", "many"] (defScope (top 30)) := ⟨rfl, rfl, rfl, by decide +kernel, rfl, by decide +kernel, by decide +kernel⟩
theorem fo_figures {f : Addr} {fd : FuncData} (F : FnP K "figures" (top 30) f fd) (b_range : mg "range" = none) (b_reversed : mg "reversed" = none) (b_tuple : mg "tuple" = none) : FnOk P w K mg base CX0 1 f fd ["number", "base", "many"] (sp_figures K) := by
  refine F.ok sc_figures (len_figures (K := K)) (fun cdv A outer s H vs Q E hr h => ?_)
  have hl : vs.length = 3 := len_figures (K := K) vs H Q E h
  match vs, hl, h with
  | [v0, v1, v2], _, h => exact ⟨_, PSs.nox ((pss_cons (ps_set (i := 3) sc_figures.nd rfl (Or.inl rfl) (pe_lst pa_nil)) (pss_cons (ps_for PassesOwn.never rfl (pi_range1 rfl b_range (pa_cons (L2.pv 2) pa_nil)) (pg_name (i := 4) sc_figures.nd rfl (Or.inl rfl)) (pss_cons (ps_expr (pe_bm PySem.F.plainAttrs_list PySem.F.slot_list_append PySem.F.type_list_append mt_append (L2.pv 3) (pa_cons (pe_op op_mod (L2.pv 0) (L2.pv 1)) pa_nil))) (pss_one (ps_set (i := 0) sc_figures.nd rfl (Or.inl rfl) (pe_op op_fdivW (L2.pv 0) (L2.pv 1)))))) (pss_one (ps_ret (RT.pe_tupRev rfl rfl b_tuple rfl b_reversed (L2.pv 3))))))), prom_ok (n := 3) (S := Unit) (Ret := (rIm K)) (As := fun i : Int × Int × Int => [.im (pv K i.1), .im (pv K i.2.1), .im (pv K i.2.2)]) (m := fun i => m_figures i.1 i.2.1 i.2.2) 2 (fun _ => rfl) rfl (fun (number, base_, many) => (show RN (rIm K) _ (fun (s : Unit) => [.im (pv K number), .im (pv K base_), .im (pv K many), .no, .no]) (m_figures number base_ many) (fun (s : Unit) => [.no, .no, .no, .no, .no]) from (rn_of (rt_seq (rp_take (Γ := fun (s : Unit) => [.im (pv K number), .im (pv K base_), .im (pv K many), .no, .no]) (i := 3) (Γ' := fun found104 (s : Unit) => [.im (pv K number), .im (pv K base_), .im (pv K many), .ow (ol K found104), .no]) (eo_lst (xs := ([] : (List Int))) (fun _ => ap_nil)) (fun _ => rfl) (fun _ => Nat.le_of_ble_eq_true rfl) fun _ _ => rfl) fun found104 => (rt_seq (rp_for (ΓL := fun (t105 : Int × (List Int)) (s : Unit) => [.im (pv K t105.1), .im (pv K base_), .im (pv K many), .ow (ol K t105.2), .no]) (Γx := fun (a106 : Int) (t105 : Int × (List Int)) (s : Unit) => [.im (pv K t105.1), .im (pv K base_), .im (pv K many), .ow (ol K t105.2), .im (pv K a106)]) (im_rng1 fun _ => (ap_cons (ep_var rfl) ap_nil)) (fun s => (.cons (.rfl _) (.cons (.rfl _) (.cons (.rfl _) (.cons (.rfl _) (.cons (.rfl _) .nil)))))) (fun a106 t105 s => (gt_name (Γ := [.im (pv K t105.1), .im (pv K base_), .im (pv K many), .ow (ol K t105.2), .no]) (i := 4) (Γ' := [.im (pv K t105.1), .im (pv K base_), .im (pv K many), .ow (ol K t105.2), .im (pv K a106)]) rfl rfl)) fun a106 t105 => (rp_seq (rp_app (Γ' := fun found107 (s : Unit) => [.im (pv K t105.1), .im (pv K base_), .im (pv K many), .ow (ol K found107), .im (pv K a106)]) (fun _ => rfl) (em_opC2 (fun _ => (ep_var rfl)) (fun _ => (ep_var rfl)) fun h => o_mod h) fun _ _ => rfl) fun found107 => (rp_post (f := fun number109 => (number109, found107)) (rp_asg (Γ := fun (s : Unit) => [.im (pv K t105.1), .im (pv K base_), .im (pv K many), .ow (ol K found107), .im (pv K a106)]) (i := 0) (Γ' := fun number109 (s : Unit) => [.im (pv K number109), .im (pv K base_), .im (pv K many), .ow (ol K found107), .im (pv K a106)]) (em_opC2 (fun _ => (ep_var rfl)) (fun _ => (ep_var rfl)) fun h => o_divW h) (fun _ => rfl) fun _ _ => rfl) fun number109 s => (.cons (.rfl _) (.cons (.rfl _) (.cons (.rfl _) (.cons (.rfl _) (.cons (.no _) .nil)))))))) fun t110 => (rt_pre (fun s => (.cons (.rfl _) (.cons (.rfl _) (.cons (.rfl _) (.cons (.fr fr_ol) (.cons (.rfl _) .nil)))))) (rt_ret (em_tupRev (em_pure fun _ => (ep_var rfl))) fun s => (.cons (.no _) (.cons (.no _) (.cons (.no _) (.cons (.no _) (.cons (.rfl _) .nil)))))))))))) h⟩
theorem ok_figures {f : Addr} {fd : FuncData} (F : FnP K "figures" (top 30) f fd) (hg : mg "figures" = some (.ref f)) (b_range : mg "range" = none) (b_reversed : mg "reversed" = none) (b_tuple : mg "tuple" = none) : Cal P w K mg base 1 "figures" ["number", "base", "many"] (sp_figures K) := ⟨f, fd, fo_figures F b_range b_reversed b_tuple, hg, F.kp, F.bindsN fun _ _ _ _ _ _ us hl => match us, hl with | [_, _, _], _ => rfl⟩
structure C_Code where
  f_prime : Int
  f_length : Int
  f_symbols : Int
def n_Code : List Str := ["prime", "length", "symbols"]
instance rp_Code : Rp C_Code := ⟨fun K x H v => insR K n_Code n_Code [pv K x.f_prime, pv K x.f_length, pv K x.f_symbols] H v, fun e h => insR_up e h⟩
instance nn_Code : Nn C_Code := ⟨fun ⟨a, C, dx, vs, h, _⟩ q => by rw [h] at q; cases q⟩
def m_Code (prime : Int) (length : Int) (symbols : Int) : Mn Unit C_Code :=
  (mb (mu (m_check_prime prime)) fun u_111 =>
  (mb (mb (mb (mu (m_is_between length ((1 : Int) : Int) prime)) fun b112 => mp (!b112)) fun b => mi b
    (mb (mbad : Mn Unit Unit) fun u_114 => mp ())
    (mp ())) fun t113 =>
  (mb (mb (mb (mu (m_is_between symbols ((1 : Int) : Int) ((if (64 : Int) < length then (64 : Int) else length) : Int))) fun b115 => mp (!b115)) fun b => mi b
    (mb (mbad : Mn Unit Unit) fun u_117 => mp ())
    (mp ())) fun t116 =>
  (mb (mp prime) fun prime118 =>
  (mb (mp length) fun length119 =>
  (mb (mp symbols) fun symbols120 => mp (C_Code.mk prime118 length119 symbols120)))))))
abbrev sp_Code (K : PySem.W.Frag) (C : Addr) : Sp := PromI C n_Code (fun i : Int × Int × Int => [pv K i.1, pv K i.2.1, pv K i.2.2]) (fun i => m_Code i.1 i.2.1 i.2.2) fun x => [pv K x.f_prime, pv K x.f_length, pv K x.f_symbols]
theorem len_Code {C : Addr} : ∀ vs H Q E, sp_Code K C vs H Q E → vs.length = 4 := promI_len (As := fun i : Int × Int × Int => [pv K i.1, pv K i.2.1, pv K i.2.2]) (m := fun i => m_Code i.1 i.2.1 i.2.2) (fl := fun x => [pv K x.f_prime, pv K x.f_length, pv K x.f_symbols]) fun _ => rfl
theorem sc_Code : FnScope ["self", "prime", "length", "symbols"] ["self", "prime", "length", "symbols"] (defScope (inClass (top 33) 0)) := ⟨rfl, rfl, rfl, by decide +kernel, rfl, by decide +kernel, by decide +kernel⟩
theorem fo_Code {C f : Addr} {fd : FuncData} (F : FunD K "__init__" "Code.__init__" (defArgs (inClass (top 33) 0)) (defBody (inClass (top 33) 0)) (defScope (inClass (top 33) 0)) [] [] f fd) (hc : ClsN K C n_Code) (b_min : mg "min" = none) (c_MOST_SYMBOLS : ∃ t, mg "MOST_SYMBOLS" = some (.int 64 t)) (C_check_prime : Cal P w K mg base 4 "check_prime" ["prime"] (sp_check_prime K)) (C_is_between : Cal P w K mg base 2 "is_between" ["value", "least", "most"] (sp_is_between K)) : FnOk P w K mg base CX0 5 f fd ["self", "prime", "length", "symbols"] (sp_Code K C) := by
  obtain ⟨t_MOST_SYMBOLS, c_MOST_SYMBOLS⟩ := c_MOST_SYMBOLS
  obtain ⟨f_check_prime, fd_check_prime, G_check_prime, g_check_prime, kp_check_prime, bi_check_prime⟩ := C_check_prime.ex
  obtain ⟨f_is_between, fd_is_between, G_is_between, g_is_between, kp_is_between, bi_is_between⟩ := C_is_between.ex
  refine F.ok sc_Code (len_Code (K := K)) (fun cdv A outer s H vs Q E hr h => ?_)
  have hl : vs.length = 4 := len_Code (K := K) vs H Q E h
  match vs, hl, h with
  | [v0, v1, v2, v3], _, h => exact ⟨_, PSs.nox ((pss_cons (ps_expr (pe_call G_check_prime (hr.mono (Nat.le_of_ble_eq_true rfl)) rfl g_check_prime kp_check_prime bi_check_prime .nil pass0 (pa_cons (L2.pv 1) pa_nil))) (pss_cons (ps_if (pt_not (pt_val (pe_call G_is_between (hr.mono (Nat.le_of_ble_eq_true rfl)) rfl g_is_between kp_is_between bi_is_between .nil pass0 (pa_cons (L2.pv 2) (pa_cons pe_int (pa_cons (L2.pv 1) pa_nil)))))) (pss_one ps_never) pss_nil) (pss_cons (ps_if (pt_not (pt_val (pe_call G_is_between (hr.mono (Nat.le_of_ble_eq_true rfl)) rfl g_is_between kp_is_between bi_is_between .nil pass0 (pa_cons (L2.pv 3) (pa_cons pe_int (pa_cons (pe_callB (call_min2 rfl) rfl b_min bt_min (pa_cons (L2.pv 2) (pa_cons (pe_glob (v := .int 64) rfl c_MOST_SYMBOLS ⟨_, rfl⟩) pa_nil))) pa_nil)))))) (pss_one ps_never) pss_nil) (pss_cons (ps_fld (L2.pv 0) (L2.pv 1) rfl) (pss_cons (ps_fld (L2.pv 0) (L2.pv 2) rfl) (pss_one (ps_fld (L2.pv 0) (L2.pv 3) rfl)))))))), promI_ok (n := 3) (ns := n_Code) (As := fun i : Int × Int × Int => [pv K i.1, pv K i.2.1, pv K i.2.2]) (m := fun i => m_Code i.1 i.2.1 i.2.2) (fl := fun x => [pv K x.f_prime, pv K x.f_length, pv K x.f_symbols]) 0 (fun _ => rfl) rfl (fun (prime, length, symbols) => (show RP _ (fun (s : Unit) => [.ow ((oin C [] []).at v0), .im (pv K prime), .im (pv K length), .im (pv K symbols)]) (m_Code prime length symbols) (fun (x : C_Code) (s : Unit) => .ow ((oin C n_Code [pv K x.f_prime, pv K x.f_length, pv K x.f_symbols]).at v0) :: [.no, .no, .no]) from (rp_seq (rp_drop (em_of_eo (eo_call0 (i := prime) (ps := [pv K prime]) (fun _ => (ap_cons (ep_var rfl) ap_nil)) rfl))) fun u_111 => (rp_seq (rp_if (Γ' := fun t113 (s : Unit) => [.ow ((oin C [] []).at v0), .im (pv K prime), .im (pv K length), .im (pv K symbols)]) (tm_not (tm_B (em_of_eo (eo_call0 (i := (length, ((1 : Int) : Int), prime)) (ps := [pv K length, pv K ((1 : Int) : Int), pv K prime]) (fun _ => (ap_cons (ep_var rfl) (ap_cons (ep_int (K := K)) (ap_cons (ep_var rfl) ap_nil)))) rfl)))) (rp_post (f := fun u_114 => ()) (rp_never (Γ' := fun u_114 (s : Unit) => [.ow ((oin C [] []).at v0), .im (pv K prime), .im (pv K length), .im (pv K symbols)])) fun u_114 s => (.cons (.rfl _) (.cons (.rfl _) (.cons (.rfl _) (.cons (.rfl _) .nil))))) (rp_next (x := ()) fun s => (.cons (.rfl _) (.cons (.rfl _) (.cons (.rfl _) (.cons (.rfl _) .nil)))))) fun t113 => (rp_seq (rp_if (Γ' := fun t116 (s : Unit) => [.ow ((oin C [] []).at v0), .im (pv K prime), .im (pv K length), .im (pv K symbols)]) (tm_not (tm_B (em_of_eo (eo_call0 (i := (symbols, ((1 : Int) : Int), ((if (64 : Int) < length then (64 : Int) else length) : Int))) (ps := [pv K symbols, pv K ((1 : Int) : Int), pv K ((if (64 : Int) < length then (64 : Int) else length) : Int)]) (fun _ => (ap_cons (ep_var rfl) (ap_cons (ep_int (K := K)) (ap_cons (ep_cb (ap_cons (ep_var rfl) (ap_cons (ep_int (K := K)) ap_nil)) c_min2) ap_nil)))) rfl)))) (rp_post (f := fun u_117 => ()) (rp_never (Γ' := fun u_117 (s : Unit) => [.ow ((oin C [] []).at v0), .im (pv K prime), .im (pv K length), .im (pv K symbols)])) fun u_117 s => (.cons (.rfl _) (.cons (.rfl _) (.cons (.rfl _) (.cons (.rfl _) .nil))))) (rp_next (x := ()) fun s => (.cons (.rfl _) (.cons (.rfl _) (.cons (.rfl _) (.cons (.rfl _) .nil)))))) fun t116 => (rp_seq (rp_fldI (all := n_Code) (ns := []) (ps := []) (C := C) (j := 0) (w := v0) (Γ := fun (s : Unit) => [.ow ((oin C [] []).at v0), .im (pv K prime), .im (pv K length), .im (pv K symbols)]) (Γ' := fun prime118 (s : Unit) => [.ow ((oin C ["prime"] [pv K prime118]).at v0), .im (pv K prime), .im (pv K length), .im (pv K symbols)]) (fun _ => rfl) rfl hc (by decide +kernel) (by decide +kernel) (by decide) (em_pure fun _ => (ep_var rfl)) fun _ _ => rfl) fun prime118 => (rp_seq (rp_fldI (all := n_Code) (ns := ["prime"]) (ps := [pv K prime118]) (C := C) (j := 0) (w := v0) (Γ := fun (s : Unit) => [.ow ((oin C ["prime"] [pv K prime118]).at v0), .im (pv K prime), .im (pv K length), .im (pv K symbols)]) (Γ' := fun length119 (s : Unit) => [.ow ((oin C ["prime", "length"] [pv K prime118, pv K length119]).at v0), .im (pv K prime), .im (pv K length), .im (pv K symbols)]) (fun _ => rfl) rfl hc (by decide +kernel) (by decide +kernel) (by decide) (em_pure fun _ => (ep_var rfl)) fun _ _ => rfl) fun length119 => (rp_post (f := fun symbols120 => (C_Code.mk prime118 length119 symbols120)) (rp_fldI (all := n_Code) (ns := ["prime", "length"]) (ps := [pv K prime118, pv K length119]) (C := C) (j := 0) (w := v0) (Γ := fun (s : Unit) => [.ow ((oin C ["prime", "length"] [pv K prime118, pv K length119]).at v0), .im (pv K prime), .im (pv K length), .im (pv K symbols)]) (Γ' := fun symbols120 (s : Unit) => [.ow ((oin C ["prime", "length", "symbols"] [pv K prime118, pv K length119, pv K symbols120]).at v0), .im (pv K prime), .im (pv K length), .im (pv K symbols)]) (fun _ => rfl) rfl hc (by decide +kernel) (by decide +kernel) (by decide) (em_pure fun _ => (ep_var rfl)) fun _ _ => rfl) fun symbols120 s => (.cons (.rfl _) (.cons (.no _) (.cons (.no _) (.cons (.no _) .nil)))))))))))) h⟩
theorem ok_Code {C f : Addr} {fd : FuncData} (F : FunD K "__init__" "Code.__init__" (defArgs (inClass (top 33) 0)) (defBody (inClass (top 33) 0)) (defScope (inClass (top 33) 0)) [] [] f fd) (hg : mg "Code" = some (.ref C)) (M : Mk K C f) (hc : ClsN K C n_Code) (b_min : mg "min" = none) (c_MOST_SYMBOLS : ∃ t, mg "MOST_SYMBOLS" = some (.int 64 t)) (C_check_prime : Cal P w K mg base 4 "check_prime" ["prime"] (sp_check_prime K)) (C_is_between : Cal P w K mg base 2 "is_between" ["value", "least", "most"] (sp_is_between K)) : MakC P w K mg base 5 "Code" n_Code ["self", "prime", "length", "symbols"] fun C => sp_Code K C := ⟨C, f, fd, hg, M, hc, fo_Code F hc b_min c_MOST_SYMBOLS C_check_prime C_is_between, F.bindsN fun _ _ _ _ _ _ us hl => match us, hl with | [_, _, _, _], _ => rfl⟩
def m_word_of (code : C_Code) (data : (Tu Int)) : Mn Unit (Tu Int) :=
  (mb (mb (mb (mc (b62 code.f_length) (rng 0 code.f_length.toNat)) fun xs => cmP xs (fun (a121 : Int) => (mp true)) fun a121 => (mu (m_value_at code.f_prime ((Sq.mk true data.l) : (Sq Int)) a121))) fun x_122 => mb (mp ()) fun z123 => mp (x_122, z123)) fun z124 => mp (Tu.mk z124.1))
abbrev sp_word_of (K : PySem.W.Frag) : Sp := Prom (rIm K) (S := Unit) (fun i : C_Code × (Tu Int) => [.im (pv K i.1), .im (pv K i.2)]) fun i => m_word_of i.1 i.2
theorem len_word_of : ∀ vs H Q E, sp_word_of K vs H Q E → vs.length = 2 := prom_len (S := Unit) (Ret := (rIm K)) (As := fun i : C_Code × (Tu Int) => [.im (pv K i.1), .im (pv K i.2)]) (m := fun i => m_word_of i.1 i.2) fun _ => rfl
theorem sc_word_of : FnScope ["code", "data", "place"] ["code", "data"] (defScope (top 34)) := ⟨rfl, rfl, rfl, by decide +kernel, rfl, by decide +kernel, by decide +kernel⟩
theorem fo_word_of {f : Addr} {fd : FuncData} (F : FnP K "word_of" (top 34) f fd) (b_range : mg "range" = none) (b_tuple : mg "tuple" = none) (C_value_at : Cal P w K mg base 1 "value_at" ["prime", "data", "place"] (sp_value_at K)) : FnOk P w K mg base CX0 2 f fd ["code", "data"] (sp_word_of K) := by
  obtain ⟨f_value_at, fd_value_at, G_value_at, g_value_at, kp_value_at, bi_value_at⟩ := C_value_at.ex
  refine F.ok sc_word_of (len_word_of (K := K)) (fun cdv A outer s H vs Q E hr h => ?_)
  have hl : vs.length = 2 := len_word_of (K := K) vs H Q E h
  match vs, hl, h with
  | [v0, v1], _, h => exact ⟨_, PSs.nox ((pss_one (ps_ret (pe_callTy call_tuple_of rfl b_tuple bt_tuple (pa_cons (pe_lc (own := [("place", 2)]) rfl sc_word_of.nd (pi_range1 rfl b_range (pa_cons (pe_fld (L2.pv 0) rfl) pa_nil)) (blkOk_by (own := [("place", 2)]) (N := ["code", "data", "place"]) (sc := defScope (top 34)) (by decide +kernel)) (fun _ _ _ _ _ => (pg_name (i := 2) sc_word_of.nd rfl (Or.inl rfl))) (fun _ _ _ _ _ => pts_nil) (fun _ _ _ _ _ => (pe_call G_value_at (hr.mono (Nat.le_of_ble_eq_true rfl)) rfl g_value_at kp_value_at bi_value_at .nil pass0 (pa_cons (pe_fld (L2.pv 0) rfl) (pa_cons (L2.pv 1) (pa_cons (L2.pv 2) pa_nil)))))) pa_nil))))), prom_ok (n := 2) (S := Unit) (Ret := (rIm K)) (As := fun i : C_Code × (Tu Int) => [.im (pv K i.1), .im (pv K i.2)]) (m := fun i => m_word_of i.1 i.2) 1 (fun _ => rfl) rfl (fun (code, data) => (show RN (rIm K) _ (fun (s : Unit) => [.im (pv K code), .im (pv K data), .no]) (m_word_of code data) (fun (s : Unit) => [.no, .no, .no]) from (rn_of (rt_ret (em_cb (f := fun (z124 : (List Int) × Unit) => Tu.mk z124.1) (am_cons (em_lc (Γx := fun (a121 : Int) (s : Unit) => [.im (pv K code), .im (pv K data), .im (pv K a121)]) (js := [2]) (im_rng1 fun _ => (ap_cons (ep_fld (all := n_Code) (ns := n_Code) (i := 1) (ep_var rfl) (fun _ _ h => h) (by decide +kernel) (by decide +kernel) rfl) ap_nil)) (fun _ => rfl) (fun a121 s => (gt_name (Γ := [.im (pv K code), .im (pv K data), .no]) (i := 2) (Γ' := [.im (pv K code), .im (pv K data), .im (pv K a121)]) rfl rfl)) rfl (fun a121 => tm_yes) (fun a121 => (em_of_eo (eo_call0 (i := (code.f_prime, ((Sq.mk true data.l) : (Sq Int)), a121)) (ps := [pv K code.f_prime, pv K ((Sq.mk true data.l) : (Sq Int)), pv K a121]) (fun _ => (ap_cons (ep_fld (all := n_Code) (ns := n_Code) (i := 0) (ep_var rfl) (fun _ _ h => h) (by decide +kernel) (by decide +kernel) rfl) (ap_cons (ep_sqT (ep_var rfl)) (ap_cons (ep_var rfl) ap_nil)))) rfl))) fun a121 s => (.cons (.rfl _) (.cons (.rfl _) (.cons (.no _) .nil)))) am_nil) fun _ => c_tupL) fun s => (.cons (.no _) (.cons (.no _) (.cons (.rfl _) .nil))))))) h⟩
theorem ok_word_of {f : Addr} {fd : FuncData} (F : FnP K "word_of" (top 34) f fd) (hg : mg "word_of" = some (.ref f)) (b_range : mg "range" = none) (b_tuple : mg "tuple" = none) (C_value_at : Cal P w K mg base 1 "value_at" ["prime", "data", "place"] (sp_value_at K)) : Cal P w K mg base 2 "word_of" ["code", "data"] (sp_word_of K) := ⟨f, fd, fo_word_of F b_range b_tuple C_value_at, hg, F.kp, F.bindsN fun _ _ _ _ _ _ us hl => match us, hl with | [_, _], _ => rfl⟩
def m_data_of (code : C_Code) (points : (List (Int × Int))) : Mn Unit (Tu Int) :=
  (mu (m_data_through code.f_prime ((cutL points none (some code.f_symbols)) : (List (Int × Int)))))
abbrev sp_data_of (K : PySem.W.Frag) : Sp := Prom (rIm K) (S := Unit) (fun i : C_Code × (List (Int × Int)) => [.im (pv K i.1), .im (pv K i.2)]) fun i => m_data_of i.1 i.2
theorem len_data_of : ∀ vs H Q E, sp_data_of K vs H Q E → vs.length = 2 := prom_len (S := Unit) (Ret := (rIm K)) (As := fun i : C_Code × (List (Int × Int)) => [.im (pv K i.1), .im (pv K i.2)]) (m := fun i => m_data_of i.1 i.2) fun _ => rfl
theorem sc_data_of : FnScope ["code", "points"] ["code", "points"] (defScope (top 35)) := ⟨rfl, rfl, rfl, by decide +kernel, rfl, by decide +kernel, by decide +kernel⟩
theorem fo_data_of {f : Addr} {fd : FuncData} (F : FnP K "data_of" (top 35) f fd) (C_data_through : Cal P w K mg base 3 "data_through" ["prime", "points"] (sp_data_through K)) : FnOk P w K mg base CX0 4 f fd ["code", "points"] (sp_data_of K) := by
  obtain ⟨f_data_through, fd_data_through, G_data_through, g_data_through, kp_data_through, bi_data_through⟩ := C_data_through.ex
  refine F.ok sc_data_of (len_data_of (K := K)) (fun cdv A outer s H vs Q E hr h => ?_)
  have hl : vs.length = 2 := len_data_of (K := K) vs H Q E h
  match vs, hl, h with
  | [v0, v1], _, h => exact ⟨_, PSs.nox ((pss_one (ps_ret (pe_call G_data_through (hr.mono (Nat.le_of_ble_eq_true rfl)) rfl g_data_through kp_data_through bi_data_through .nil pass0 (pa_cons (pe_fld (L2.pv 0) rfl) (pa_cons (pe_slice sl_list (L2.pv 1) po_none (po_some (pe_fld (L2.pv 0) rfl))) pa_nil)))))), prom_ok (n := 2) (S := Unit) (Ret := (rIm K)) (As := fun i : C_Code × (List (Int × Int)) => [.im (pv K i.1), .im (pv K i.2)]) (m := fun i => m_data_of i.1 i.2) 0 (fun _ => rfl) rfl (fun (code, points) => (show RN (rIm K) _ (fun (s : Unit) => [.im (pv K code), .im (pv K points)]) (m_data_of code points) (fun (s : Unit) => [.no, .no]) from (rn_of (rt_ret (em_of_eo (eo_call0 (i := (code.f_prime, ((cutL points none (some code.f_symbols)) : (List (Int × Int))))) (ps := [pv K code.f_prime, pv K ((cutL points none (some code.f_symbols)) : (List (Int × Int)))]) (fun _ => (ap_cons (ep_fld (all := n_Code) (ns := n_Code) (i := 0) (ep_var rfl) (fun _ _ h => h) (by decide +kernel) (by decide +kernel) rfl) (ap_cons (ep_sl (ep_var rfl) po_no (po_i (ep_fld (all := n_Code) (ns := n_Code) (i := 2) (ep_var rfl) (fun _ _ h => h) (by decide +kernel) (by decide +kernel) rfl))) ap_nil))) rfl)) fun s => (.cons (.no _) (.cons (.no _) .nil)))))) h⟩
theorem ok_data_of {f : Addr} {fd : FuncData} (F : FnP K "data_of" (top 35) f fd) (hg : mg "data_of" = some (.ref f)) (C_data_through : Cal P w K mg base 3 "data_through" ["prime", "points"] (sp_data_through K)) : Cal P w K mg base 4 "data_of" ["code", "points"] (sp_data_of K) := ⟨f, fd, fo_data_of F C_data_through, hg, F.kp, F.bindsN fun _ _ _ _ _ _ us hl => match us, hl with | [_, _], _ => rfl⟩
def m_choose (many : Int) (few : Int) : Mn Unit Int :=
  (mb (mp ((1 : Int) : Int)) fun found125 =>
  (mb (mb (mc (b62 few) (rng 0 few.toNat)) fun xs => forP xs found125 fun a127 (t126 : Int) =>
    (mb (mb (mc (mulOk t126 (many - a127)) (t126 * (many - a127))) fun x_128 => mc (divOk (a127 + (1 : Int))) (x_128 / (a127 + (1 : Int)))) fun found130 => mp found130)) fun t131 =>
  (mp t131)))
abbrev sp_choose (K : PySem.W.Frag) : Sp := Prom (rIm K) (S := Unit) (fun i : Int × Int => [.im (pv K i.1), .im (pv K i.2)]) fun i => m_choose i.1 i.2
theorem len_choose : ∀ vs H Q E, sp_choose K vs H Q E → vs.length = 2 := prom_len (S := Unit) (Ret := (rIm K)) (As := fun i : Int × Int => [.im (pv K i.1), .im (pv K i.2)]) (m := fun i => m_choose i.1 i.2) fun _ => rfl
theorem sc_choose : FnScope ["many", "few", "found", "at"] ["many", "few"] (defScope (top 39)) := ⟨rfl, rfl, rfl, by decide +kernel, rfl, by decide +kernel, by decide +kernel⟩
theorem fo_choose {f : Addr} {fd : FuncData} (F : FnP K "choose" (top 39) f fd) (b_range : mg "range" = none) : FnOk P w K mg base CX0 1 f fd ["many", "few"] (sp_choose K) := by
  refine F.ok sc_choose (len_choose (K := K)) (fun cdv A outer s H vs Q E hr h => ?_)
  have hl : vs.length = 2 := len_choose (K := K) vs H Q E h
  match vs, hl, h with
  | [v0, v1], _, h => exact ⟨_, PSs.nox ((pss_cons (ps_set (i := 2) sc_choose.nd rfl (Or.inl rfl) pe_int) (pss_cons (ps_for PassesOwn.never rfl (pi_range1 rfl b_range (pa_cons (L2.pv 1) pa_nil)) (pg_name (i := 3) sc_choose.nd rfl (Or.inl rfl)) (pss_one (ps_set (i := 2) sc_choose.nd rfl (Or.inl rfl) (pe_op op_fdivW (pe_op op_mulW (L2.pv 2) (pe_op op_sub (L2.pv 0) (L2.pv 3))) (pe_op op_add (L2.pv 3) pe_int))))) (pss_one (ps_ret (L2.pv 2)))))), prom_ok (n := 2) (S := Unit) (Ret := (rIm K)) (As := fun i : Int × Int => [.im (pv K i.1), .im (pv K i.2)]) (m := fun i => m_choose i.1 i.2) 2 (fun _ => rfl) rfl (fun (many, few) => (show RN (rIm K) _ (fun (s : Unit) => [.im (pv K many), .im (pv K few), .no, .no]) (m_choose many few) (fun (s : Unit) => [.no, .no, .no, .no]) from (rn_of (rt_seq (rp_asg (Γ := fun (s : Unit) => [.im (pv K many), .im (pv K few), .no, .no]) (i := 2) (Γ' := fun found125 (s : Unit) => [.im (pv K many), .im (pv K few), .im (pv K found125), .no]) (em_pure fun _ => (ep_int (K := K))) (fun _ => rfl) fun _ _ => rfl) fun found125 => (rt_seq (rp_for (ΓL := fun (t126 : Int) (s : Unit) => [.im (pv K many), .im (pv K few), .im (pv K t126), .no]) (Γx := fun (a127 : Int) (t126 : Int) (s : Unit) => [.im (pv K many), .im (pv K few), .im (pv K t126), .im (pv K a127)]) (im_rng1 fun _ => (ap_cons (ep_var rfl) ap_nil)) (fun s => (.cons (.rfl _) (.cons (.rfl _) (.cons (.rfl _) (.cons (.rfl _) .nil))))) (fun a127 t126 s => (gt_name (Γ := [.im (pv K many), .im (pv K few), .im (pv K t126), .no]) (i := 3) (Γ' := [.im (pv K many), .im (pv K few), .im (pv K t126), .im (pv K a127)]) rfl rfl)) fun a127 t126 => (rp_post (f := fun found130 => found130) (rp_asg (Γ := fun (s : Unit) => [.im (pv K many), .im (pv K few), .im (pv K t126), .im (pv K a127)]) (i := 2) (Γ' := fun found130 (s : Unit) => [.im (pv K many), .im (pv K few), .im (pv K found130), .im (pv K a127)]) (em_oprC (g := fun (u : Int) (v : Int) => (u / v)) (c := fun (u : Int) (v : Int) => divOk v) (em_opC2 (fun _ => (ep_var rfl)) (fun _ => (ep_op (ep_var rfl) (ep_var rfl) o_sub)) fun h => o_mulW h) (fun _ => (ep_op (ep_var rfl) (ep_int (K := K)) o_add)) fun _ h => (o_divW h)) (fun _ => rfl) fun _ _ => rfl) fun found130 s => (.cons (.rfl _) (.cons (.rfl _) (.cons (.rfl _) (.cons (.no _) .nil)))))) fun t131 => (rt_ret (em_pure fun _ => (ep_var rfl)) fun s => (.cons (.no _) (.cons (.no _) (.cons (.no _) (.cons (.rfl _) .nil)))))))))) h⟩
theorem ok_choose {f : Addr} {fd : FuncData} (F : FnP K "choose" (top 39) f fd) (hg : mg "choose" = some (.ref f)) (b_range : mg "range" = none) : Cal P w K mg base 1 "choose" ["many", "few"] (sp_choose K) := ⟨f, fd, fo_choose F b_range, hg, F.kp, F.bindsN fun _ _ _ _ _ _ us hl => match us, hl with | [_, _], _ => rfl⟩
def m_spread (held : Int) (need : Int) (lost : Int) : Mn Unit Int :=
  (mb (mb (mc (divOk need) (((held + need) - (1 : Int)) / need)) fun y133 => mc (mulOk lost y133) (lost * y133)) fun y135 => mp (held + y135))
abbrev sp_spread (K : PySem.W.Frag) : Sp := Prom (rIm K) (S := Unit) (fun i : Int × Int × Int => [.im (pv K i.1), .im (pv K i.2.1), .im (pv K i.2.2)]) fun i => m_spread i.1 i.2.1 i.2.2
theorem len_spread : ∀ vs H Q E, sp_spread K vs H Q E → vs.length = 3 := prom_len (S := Unit) (Ret := (rIm K)) (As := fun i : Int × Int × Int => [.im (pv K i.1), .im (pv K i.2.1), .im (pv K i.2.2)]) (m := fun i => m_spread i.1 i.2.1 i.2.2) fun _ => rfl
theorem sc_spread : FnScope ["held", "need", "lost"] ["held", "need", "lost"] (defScope (top 40)) := ⟨rfl, rfl, rfl, by decide +kernel, rfl, by decide +kernel, by decide +kernel⟩
theorem fo_spread {f : Addr} {fd : FuncData} (F : FnP K "spread" (top 40) f fd) : FnOk P w K mg base CX0 1 f fd ["held", "need", "lost"] (sp_spread K) := by
  refine F.ok sc_spread (len_spread (K := K)) (fun cdv A outer s H vs Q E hr h => ?_)
  have hl : vs.length = 3 := len_spread (K := K) vs H Q E h
  match vs, hl, h with
  | [v0, v1, v2], _, h => exact ⟨_, PSs.nox ((pss_one (ps_ret (pe_op op_add (L2.pv 0) (pe_op op_mulW (L2.pv 2) (pe_op op_fdivW (pe_op op_sub (pe_op op_add (L2.pv 0) (L2.pv 1)) pe_int) (L2.pv 1))))))), prom_ok (n := 3) (S := Unit) (Ret := (rIm K)) (As := fun i : Int × Int × Int => [.im (pv K i.1), .im (pv K i.2.1), .im (pv K i.2.2)]) (m := fun i => m_spread i.1 i.2.1 i.2.2) 0 (fun _ => rfl) rfl (fun (held, need, lost) => (show RN (rIm K) _ (fun (s : Unit) => [.im (pv K held), .im (pv K need), .im (pv K lost)]) (m_spread held need lost) (fun (s : Unit) => [.no, .no, .no]) from (rn_of (rt_ret (em_opl (g := fun (u : Int) (v : Int) => (u + v)) (fun _ => (ep_var rfl)) (em_oplC (g := fun (u : Int) (v : Int) => (u * v)) (c := fun (u : Int) (v : Int) => mulOk u v) (fun _ => (ep_var rfl)) (em_opC2 (fun _ => (ep_op (ep_op (ep_var rfl) (ep_var rfl) o_add) (ep_int (K := K)) o_sub)) (fun _ => (ep_var rfl)) fun h => o_divW h) fun _ h => (o_mulW h)) fun _ => o_add) fun s => (.cons (.no _) (.cons (.no _) (.cons (.no _) .nil))))))) h⟩
theorem ok_spread {f : Addr} {fd : FuncData} (F : FnP K "spread" (top 40) f fd) (hg : mg "spread" = some (.ref f)) : Cal P w K mg base 1 "spread" ["held", "need", "lost"] (sp_spread K) := ⟨f, fd, fo_spread F, hg, F.kp, F.bindsN fun _ _ _ _ _ _ us hl => match us, hl with | [_, _, _], _ => rfl⟩
def m_telling (lots : Int) (contents : Int) (need : Int) (lost : Int) : Mn Unit (Option (Int × (Option Int))) :=
  (mb (mp (decide (lots = (1 : Int)))) fun b => mi b
    (mp ((some ((0 : Int), (none : (Option Int)))) : (Option (Int × (Option Int)))))
    (mb (mp (decide (lots < contents))) fun b => mi b
    (mp ((some ((1 : Int), (none : (Option Int)))) : (Option (Int × (Option Int)))))
    (mb (mp (decide (contents = (2 : Int)))) fun b => mi b
    (mp ((none : (Option (Int × (Option Int)))) : (Option (Int × (Option Int)))))
    (mb (mu (m_prime_below contents)) fun prime136 =>
  (mb (mb (mc (mulOk prime136 prime136) (prime136 * prime136)) fun x_138 => mb (mp ()) fun z139 => mp (x_138, z139)) fun z137 =>
  (mb (whP 64 ((2 : Int), z137.1) (fun (t140 : Int × Int) => (mp (decide (t140.2 < lots)))) fun (t140 : Int × Int) =>
    (mb (mb (mc (mulOk t140.2 prime136) (t140.2 * prime136)) fun x_142 => mb (mp ()) fun z143 => mp (x_142, z143)) fun z141 => mp ((t140.1 + (1 : Int)), z141.1))) fun t144 =>
  (mb (mb (mu (m_spread ((t144.1 + (1 : Int)) : Int) need lost)) fun x_145 => mp (decide (x_145 ≤ prime136))) fun b147 => mi b147 (mp ((some (t144.1, (some prime136))) : (Option (Int × (Option Int))))) (mp ((none : (Option (Int × (Option Int)))) : (Option (Int × (Option Int))))))))))))
abbrev sp_telling (K : PySem.W.Frag) : Sp := Prom (rIm K) (S := Unit) (fun i : Int × Int × Int × Int => [.im (pv K i.1), .im (pv K i.2.1), .im (pv K i.2.2.1), .im (pv K i.2.2.2)]) fun i => m_telling i.1 i.2.1 i.2.2.1 i.2.2.2
theorem len_telling : ∀ vs H Q E, sp_telling K vs H Q E → vs.length = 4 := prom_len (S := Unit) (Ret := (rIm K)) (As := fun i : Int × Int × Int × Int => [.im (pv K i.1), .im (pv K i.2.1), .im (pv K i.2.2.1), .im (pv K i.2.2.2)]) (m := fun i => m_telling i.1 i.2.1 i.2.2.1 i.2.2.2) fun _ => rfl
theorem sc_telling : FnScope ["lots", "contents", "need", "lost", "prime", "symbols", "words"] ["lots", "contents", "need", "lost"] (defScope (top 41)) := ⟨rfl, rfl, rfl, by decide +kernel, rfl, by decide +kernel, by decide +kernel⟩
theorem fo_telling {f : Addr} {fd : FuncData} (F : FnP K "telling" (top 41) f fd) (C_prime_below : Cal P w K mg base 4 "prime_below" ["number"] (sp_prime_below K)) (C_spread : Cal P w K mg base 1 "spread" ["held", "need", "lost"] (sp_spread K)) : FnOk P w K mg base CX0 5 f fd ["lots", "contents", "need", "lost"] (sp_telling K) := by
  obtain ⟨f_prime_below, fd_prime_below, G_prime_below, g_prime_below, kp_prime_below, bi_prime_below⟩ := C_prime_below.ex
  obtain ⟨f_spread, fd_spread, G_spread, g_spread, kp_spread, bi_spread⟩ := C_spread.ex
  refine F.ok sc_telling (len_telling (K := K)) (fun cdv A outer s H vs Q E hr h => ?_)
  have hl : vs.length = 4 := len_telling (K := K) vs H Q E h
  match vs, hl, h with
  | [v0, v1, v2, v3], _, h => exact ⟨_, PSs.nox ((pss_cons (ps_if (pt_cmpR op_eq (L2.pv 0) pe_int (nomark _)) (pss_one (ps_ret (pe_tup (pa_cons pe_int (pa_cons pe_non pa_nil))))) pss_nil) (pss_cons (ps_if (pt_cmpR op_lt (L2.pv 0) (L2.pv 1) (nomark _)) (pss_one (ps_ret (pe_tup (pa_cons pe_int (pa_cons pe_non pa_nil))))) pss_nil) (pss_cons (ps_if (pt_cmpR op_eq (L2.pv 1) pe_int (nomark _)) (pss_one (ps_ret pe_non)) pss_nil) (pss_cons (ps_set (i := 4) sc_telling.nd rfl (Or.inl rfl) (pe_call G_prime_below (hr.mono (Nat.le_of_ble_eq_true rfl)) rfl g_prime_below kp_prime_below bi_prime_below .nil pass0 (pa_cons (L2.pv 1) pa_nil))) (pss_cons (ps_par (i := 5) (j := 6) rfl sc_telling.nd rfl rfl (by decide) rfl rfl (pa_cons pe_int (pa_cons (pe_op op_mulW (L2.pv 4) (L2.pv 4)) pa_nil)) rfl) (pss_cons (ps_while PassesOwn.never (pt_cmpR op_lt (L2.pv 6) (L2.pv 0) (nomark _)) (pss_one (ps_par (i := 5) (j := 6) rfl sc_telling.nd rfl rfl (by decide) rfl rfl (pa_cons (pe_op op_add (L2.pv 5) pe_int) (pa_cons (pe_op op_mulW (L2.pv 6) (L2.pv 4)) pa_nil)) rfl))) (pss_one (ps_ret (pe_ifExp (pt_cmpR op_le (pe_call G_spread (hr.mono (Nat.le_of_ble_eq_true rfl)) rfl g_spread kp_spread bi_spread .nil pass0 (pa_cons (pe_op op_add (L2.pv 5) pe_int) (pa_cons (L2.pv 2) (pa_cons (L2.pv 3) pa_nil)))) (L2.pv 4) (nomark _)) (pe_tup (pa_cons (L2.pv 5) (pa_cons (L2.pv 4) pa_nil))) pe_non)))))))))), prom_ok (n := 4) (S := Unit) (Ret := (rIm K)) (As := fun i : Int × Int × Int × Int => [.im (pv K i.1), .im (pv K i.2.1), .im (pv K i.2.2.1), .im (pv K i.2.2.2)]) (m := fun i => m_telling i.1 i.2.1 i.2.2.1 i.2.2.2) 3 (fun _ => rfl) rfl (fun (lots, contents, need, lost) => (show RN (rIm K) _ (fun (s : Unit) => [.im (pv K lots), .im (pv K contents), .im (pv K need), .im (pv K lost), .no, .no, .no]) (m_telling lots contents need lost) (fun (s : Unit) => [.no, .no, .no, .no, .no, .no, .no]) from (rn_of (rt_ifr (tm_pure fun _ => (tp_test (ep_op (ep_var rfl) (ep_int (K := K)) o_eq))) (rt_ret (em_pure fun _ => (ep_someN (ep_tup (ap_cons (ep_int (K := K)) (ap_cons ep_nonO ap_nil)) tup2))) fun s => (.cons (.no _) (.cons (.no _) (.cons (.no _) (.cons (.no _) (.cons (.rfl _) (.cons (.rfl _) (.cons (.rfl _) .nil)))))))) (rt_ifr (tm_pure fun _ => (tp_test (ep_op (ep_var rfl) (ep_var rfl) o_lt))) (rt_ret (em_pure fun _ => (ep_someN (ep_tup (ap_cons (ep_int (K := K)) (ap_cons ep_nonO ap_nil)) tup2))) fun s => (.cons (.no _) (.cons (.no _) (.cons (.no _) (.cons (.no _) (.cons (.rfl _) (.cons (.rfl _) (.cons (.rfl _) .nil)))))))) (rt_ifr (tm_pure fun _ => (tp_test (ep_op (ep_var rfl) (ep_int (K := K)) o_eq))) (rt_ret (em_pure fun _ => ep_nonO) fun s => (.cons (.no _) (.cons (.no _) (.cons (.no _) (.cons (.no _) (.cons (.rfl _) (.cons (.rfl _) (.cons (.rfl _) .nil)))))))) (rt_seq (rp_asg (Γ := fun (s : Unit) => [.im (pv K lots), .im (pv K contents), .im (pv K need), .im (pv K lost), .no, .no, .no]) (i := 4) (Γ' := fun prime136 (s : Unit) => [.im (pv K lots), .im (pv K contents), .im (pv K need), .im (pv K lost), .im (pv K prime136), .no, .no]) (em_of_eo (eo_call0 (i := contents) (ps := [pv K contents]) (fun _ => (ap_cons (ep_var rfl) ap_nil)) rfl)) (fun _ => rfl) fun _ _ => rfl) fun prime136 => (rt_seq (rp_asg2 (Γ' := fun z137 (s : Unit) => [.im (pv K lots), .im (pv K contents), .im (pv K need), .im (pv K lost), .im (pv K prime136), .im (pv K ((2 : Int) : Int)), .im (pv K z137.1)]) (ao_p (fun _ => (ep_int (K := K))) (ao_m (em_opC2 (fun _ => (ep_var rfl)) (fun _ => (ep_var rfl)) fun h => o_mulW h) ao_nil)) (fun _ => asg_ok rfl) (fun _ => rfl) (fun _ => rfl) fun _ _ => rfl) fun z137 => (rt_seq (rp_while (ΓL := fun (t140 : Int × Int) (s : Unit) => [.im (pv K lots), .im (pv K contents), .im (pv K need), .im (pv K lost), .im (pv K prime136), .im (pv K t140.1), .im (pv K t140.2)]) (fun s => (.cons (.rfl _) (.cons (.rfl _) (.cons (.rfl _) (.cons (.rfl _) (.cons (.rfl _) (.cons (.rfl _) (.cons (.rfl _) .nil)))))))) (fun t140 => (tm_pure fun _ => (tp_test (ep_op (ep_var rfl) (ep_var rfl) o_lt)))) fun t140 => (rp_post (f := fun z141 => ((t140.1 + (1 : Int)), z141.1)) (rp_asg2 (Γ' := fun z141 (s : Unit) => [.im (pv K lots), .im (pv K contents), .im (pv K need), .im (pv K lost), .im (pv K prime136), .im (pv K ((t140.1 + (1 : Int)) : Int)), .im (pv K z141.1)]) (ao_p (fun _ => (ep_op (ep_var rfl) (ep_int (K := K)) o_add)) (ao_m (em_opC2 (fun _ => (ep_var rfl)) (fun _ => (ep_var rfl)) fun h => o_mulW h) ao_nil)) (fun _ => asg_ok rfl) (fun _ => rfl) (fun _ => rfl) fun _ _ => rfl) fun z141 s => (.cons (.rfl _) (.cons (.rfl _) (.cons (.rfl _) (.cons (.rfl _) (.cons (.rfl _) (.cons (.rfl _) (.cons (.rfl _) .nil))))))))) fun t144 => (rt_ret (em_if (tm_test (em_opr (g := fun (u : Int) (v : Int) => decide (u ≤ v)) (em_of_eo (eo_call0 (i := (((t144.1 + (1 : Int)) : Int), need, lost)) (ps := [pv K ((t144.1 + (1 : Int)) : Int), pv K need, pv K lost]) (fun _ => (ap_cons (ep_op (ep_var rfl) (ep_int (K := K)) o_add) (ap_cons (ep_var rfl) (ap_cons (ep_var rfl) ap_nil)))) rfl)) (fun _ => (ep_var rfl)) fun _ => o_le)) (em_pure fun _ => (ep_someN (ep_tup (ap_cons (ep_var rfl) (ap_cons (ep_some nn_int (ep_var rfl)) ap_nil)) tup2))) (em_pure fun _ => ep_nonO)) fun s => (.cons (.no _) (.cons (.no _) (.cons (.no _) (.cons (.no _) (.cons (.no _) (.cons (.no _) (.cons (.no _) .nil))))))))))))))))) h⟩
theorem ok_telling {f : Addr} {fd : FuncData} (F : FnP K "telling" (top 41) f fd) (hg : mg "telling" = some (.ref f)) (C_prime_below : Cal P w K mg base 4 "prime_below" ["number"] (sp_prime_below K)) (C_spread : Cal P w K mg base 1 "spread" ["held", "need", "lost"] (sp_spread K)) : Cal P w K mg base 5 "telling" ["lots", "contents", "need", "lost"] (sp_telling K) := ⟨f, fd, fo_telling F C_prime_below C_spread, hg, F.kp, F.bindsN fun _ _ _ _ _ _ us hl => match us, hl with | [_, _, _, _], _ => rfl⟩
def m_check_shape (disks : Int) (lost : Int) (records : Int) (changes : Int) : Mn Unit Unit :=
  (mb (mb (mu (m_is_between disks ((1 : Int) : Int) ((12 : Int) : Int))) fun b148 => mp (!b148)) fun b => mi b
    mbad
    (mb (mb (mu (m_is_between lost ((0 : Int) : Int) ((disks - (1 : Int)) : Int))) fun b149 => mp (!b149)) fun b => mi b
    mbad
    (mb (mb (mu (m_is_between records ((1 : Int) : Int) ((24 : Int) : Int))) fun b150 => mp (!b150)) fun b => mi b
    mbad
    (mb (mb (mu (m_is_between changes ((1 : Int) : Int) records)) fun b151 => mp (!b151)) fun b => mi b
    mbad
    (mp ())))))
abbrev sp_check_shape (K : PySem.W.Frag) : Sp := Prom (rIm K) (S := Unit) (fun i : Int × Int × Int × Int => [.im (pv K i.1), .im (pv K i.2.1), .im (pv K i.2.2.1), .im (pv K i.2.2.2)]) fun i => m_check_shape i.1 i.2.1 i.2.2.1 i.2.2.2
theorem len_check_shape : ∀ vs H Q E, sp_check_shape K vs H Q E → vs.length = 4 := prom_len (S := Unit) (Ret := (rIm K)) (As := fun i : Int × Int × Int × Int => [.im (pv K i.1), .im (pv K i.2.1), .im (pv K i.2.2.1), .im (pv K i.2.2.2)]) (m := fun i => m_check_shape i.1 i.2.1 i.2.2.1 i.2.2.2) fun _ => rfl
theorem sc_check_shape : FnScope ["disks", "lost", "records", "changes"] ["disks", "lost", "records", "changes"] (defScope (top 42)) := ⟨rfl, rfl, rfl, by decide +kernel, rfl, by decide +kernel, by decide +kernel⟩
theorem fo_check_shape {f : Addr} {fd : FuncData} (F : FnP K "check_shape" (top 42) f fd) (c_MOST_DISKS : ∃ t, mg "MOST_DISKS" = some (.int 12 t)) (c_MOST_RECORDS : ∃ t, mg "MOST_RECORDS" = some (.int 24 t)) (C_is_between : Cal P w K mg base 2 "is_between" ["value", "least", "most"] (sp_is_between K)) : FnOk P w K mg base CX0 3 f fd ["disks", "lost", "records", "changes"] (sp_check_shape K) := by
  obtain ⟨t_MOST_DISKS, c_MOST_DISKS⟩ := c_MOST_DISKS
  obtain ⟨t_MOST_RECORDS, c_MOST_RECORDS⟩ := c_MOST_RECORDS
  obtain ⟨f_is_between, fd_is_between, G_is_between, g_is_between, kp_is_between, bi_is_between⟩ := C_is_between.ex
  refine F.ok sc_check_shape (len_check_shape (K := K)) (fun cdv A outer s H vs Q E hr h => ?_)
  have hl : vs.length = 4 := len_check_shape (K := K) vs H Q E h
  match vs, hl, h with
  | [v0, v1, v2, v3], _, h => exact ⟨_, PSs.nox ((pss_cons (ps_if (pt_not (pt_val (pe_call G_is_between (hr.mono (Nat.le_of_ble_eq_true rfl)) rfl g_is_between kp_is_between bi_is_between .nil pass0 (pa_cons (L2.pv 0) (pa_cons pe_int (pa_cons (pe_glob (v := .int 12) rfl c_MOST_DISKS ⟨_, rfl⟩) pa_nil)))))) (pss_one ps_never) pss_nil) (pss_cons (ps_if (pt_not (pt_val (pe_call G_is_between (hr.mono (Nat.le_of_ble_eq_true rfl)) rfl g_is_between kp_is_between bi_is_between .nil pass0 (pa_cons (L2.pv 1) (pa_cons pe_int (pa_cons (pe_op op_sub (L2.pv 0) pe_int) pa_nil)))))) (pss_one ps_never) pss_nil) (pss_cons (ps_if (pt_not (pt_val (pe_call G_is_between (hr.mono (Nat.le_of_ble_eq_true rfl)) rfl g_is_between kp_is_between bi_is_between .nil pass0 (pa_cons (L2.pv 2) (pa_cons pe_int (pa_cons (pe_glob (v := .int 24) rfl c_MOST_RECORDS ⟨_, rfl⟩) pa_nil)))))) (pss_one ps_never) pss_nil) (pss_one (ps_if (pt_not (pt_val (pe_call G_is_between (hr.mono (Nat.le_of_ble_eq_true rfl)) rfl g_is_between kp_is_between bi_is_between .nil pass0 (pa_cons (L2.pv 3) (pa_cons pe_int (pa_cons (L2.pv 2) pa_nil)))))) (pss_one ps_never) pss_nil)))))), prom_ok (n := 4) (S := Unit) (Ret := (rIm K)) (As := fun i : Int × Int × Int × Int => [.im (pv K i.1), .im (pv K i.2.1), .im (pv K i.2.2.1), .im (pv K i.2.2.2)]) (m := fun i => m_check_shape i.1 i.2.1 i.2.2.1 i.2.2.2) 0 (fun _ => rfl) rfl (fun (disks, lost, records, changes) => (show RN (rIm K) _ (fun (s : Unit) => [.im (pv K disks), .im (pv K lost), .im (pv K records), .im (pv K changes)]) (m_check_shape disks lost records changes) (fun (s : Unit) => [.no, .no, .no, .no]) from ((rn_ifr (tm_not (tm_B (em_of_eo (eo_call0 (i := (disks, ((1 : Int) : Int), ((12 : Int) : Int))) (ps := [pv K disks, pv K ((1 : Int) : Int), pv K ((12 : Int) : Int)]) (fun _ => (ap_cons (ep_var rfl) (ap_cons (ep_int (K := K)) (ap_cons (ep_int (K := K)) ap_nil)))) rfl)))) rt_never (rn_ifr (tm_not (tm_B (em_of_eo (eo_call0 (i := (lost, ((0 : Int) : Int), ((disks - (1 : Int)) : Int))) (ps := [pv K lost, pv K ((0 : Int) : Int), pv K ((disks - (1 : Int)) : Int)]) (fun _ => (ap_cons (ep_var rfl) (ap_cons (ep_int (K := K)) (ap_cons (ep_op (ep_var rfl) (ep_int (K := K)) o_sub) ap_nil)))) rfl)))) rt_never (rn_ifr (tm_not (tm_B (em_of_eo (eo_call0 (i := (records, ((1 : Int) : Int), ((24 : Int) : Int))) (ps := [pv K records, pv K ((1 : Int) : Int), pv K ((24 : Int) : Int)]) (fun _ => (ap_cons (ep_var rfl) (ap_cons (ep_int (K := K)) (ap_cons (ep_int (K := K)) ap_nil)))) rfl)))) rt_never (rn_if (tm_not (tm_B (em_of_eo (eo_call0 (i := (changes, ((1 : Int) : Int), records)) (ps := [pv K changes, pv K ((1 : Int) : Int), pv K records]) (fun _ => (ap_cons (ep_var rfl) (ap_cons (ep_int (K := K)) (ap_cons (ep_var rfl) ap_nil)))) rfl)))) (rn_of rt_never) (rn_next fun s => (.cons (.no _) (.cons (.no _) (.cons (.no _) (.cons (.no _) .nil)))))))))))) h⟩
theorem ok_check_shape {f : Addr} {fd : FuncData} (F : FnP K "check_shape" (top 42) f fd) (hg : mg "check_shape" = some (.ref f)) (c_MOST_DISKS : ∃ t, mg "MOST_DISKS" = some (.int 12 t)) (c_MOST_RECORDS : ∃ t, mg "MOST_RECORDS" = some (.int 24 t)) (C_is_between : Cal P w K mg base 2 "is_between" ["value", "least", "most"] (sp_is_between K)) : Cal P w K mg base 3 "check_shape" ["disks", "lost", "records", "changes"] (sp_check_shape K) := ⟨f, fd, fo_check_shape F c_MOST_DISKS c_MOST_RECORDS C_is_between, hg, F.kp, F.bindsN fun _ _ _ _ _ _ us hl => match us, hl with | [_, _, _, _], _ => rfl⟩
structure C_Array where
  f_disks : Int
  f_lost : Int
  f_records : Int
  f_changes : Int
  f_contents : Int
  f_need : Int
  f_lots : Int
  f_symbols : Int
  f_prime : (Option Int)
  f_heads : Int
def n_Array : List Str := ["disks", "lost", "records", "changes", "contents", "need", "lots", "symbols", "prime", "heads"]
instance rp_Array : Rp C_Array := ⟨fun K x H v => insR K n_Array n_Array [pv K x.f_disks, pv K x.f_lost, pv K x.f_records, pv K x.f_changes, pv K x.f_contents, pv K x.f_need, pv K x.f_lots, pv K x.f_symbols, pv K x.f_prime, pv K x.f_heads] H v, fun e h => insR_up e h⟩
instance nn_Array : Nn C_Array := ⟨fun ⟨a, C, dx, vs, h, _⟩ q => by rw [h] at q; cases q⟩
def m_Array (disks : Int) (lost : Int) (records : Int) (changes : Int) (contents : Int) : Mn Unit C_Array :=
  (mb (mu (m_check_shape disks lost records changes)) fun u_152 =>
  (mb (mb (mb (mb (mu (m_is_prime contents)) fun b153 => mp (!b153)) fun b154 => mi b154 (mp true) (mp (decide (contents < disks)))) fun b => mi b
    (mb (mbad : Mn Unit Unit) fun u_156 => mp ())
    (mp ())) fun t155 =>
  (mb (mp disks) fun disks157 =>
  (mb (mp lost) fun lost158 =>
  (mb (mp records) fun records159 =>
  (mb (mp changes) fun changes160 =>
  (mb (mp contents) fun contents161 =>
  (mb (mp ((disks - lost) : Int)) fun need162 =>
  (mb (mu (m_choose records changes)) fun lots163 =>
  (mb (mu (m_telling lots163 contents need162 lost)) fun found164 =>
  (mb (mb (mp found164.isNone) fun b => mi b
    (mb (mbad : Mn Unit Unit) fun u_166 => mp ())
    (mp ())) fun t165 =>
  (mb (mo found164) fun z167 =>
  (mb (mu (m_spread ((z167.1 + (1 : Int)) : Int) need162 lost)) fun heads168 => mp (C_Array.mk disks157 lost158 records159 changes160 contents161 need162 lots163 z167.1 z167.2 heads168))))))))))))))
abbrev sp_Array (K : PySem.W.Frag) (C : Addr) : Sp := PromI C n_Array (fun i : Int × Int × Int × Int × Int => [pv K i.1, pv K i.2.1, pv K i.2.2.1, pv K i.2.2.2.1, pv K i.2.2.2.2]) (fun i => m_Array i.1 i.2.1 i.2.2.1 i.2.2.2.1 i.2.2.2.2) fun x => [pv K x.f_disks, pv K x.f_lost, pv K x.f_records, pv K x.f_changes, pv K x.f_contents, pv K x.f_need, pv K x.f_lots, pv K x.f_symbols, pv K x.f_prime, pv K x.f_heads]
theorem len_Array {C : Addr} : ∀ vs H Q E, sp_Array K C vs H Q E → vs.length = 6 := promI_len (As := fun i : Int × Int × Int × Int × Int => [pv K i.1, pv K i.2.1, pv K i.2.2.1, pv K i.2.2.2.1, pv K i.2.2.2.2]) (m := fun i => m_Array i.1 i.2.1 i.2.2.1 i.2.2.2.1 i.2.2.2.2) (fl := fun x => [pv K x.f_disks, pv K x.f_lost, pv K x.f_records, pv K x.f_changes, pv K x.f_contents, pv K x.f_need, pv K x.f_lots, pv K x.f_symbols, pv K x.f_prime, pv K x.f_heads]) fun _ => rfl
theorem sc_Array : FnScope ["self", "disks", "lost", "records", "changes", "contents", "found"] ["self", "disks", "lost", "records", "changes", "contents"] (defScope (inClass (top 43) 0)) := ⟨rfl, rfl, rfl, by decide +kernel, rfl, by decide +kernel, by decide +kernel⟩
theorem fo_Array {C f : Addr} {fd : FuncData} (F : FunD K "__init__" "Array.__init__" (defArgs (inClass (top 43) 0)) (defBody (inClass (top 43) 0)) (defScope (inClass (top 43) 0)) [] [] f fd) (hc : ClsN K C n_Array) (C_check_shape : Cal P w K mg base 3 "check_shape" ["disks", "lost", "records", "changes"] (sp_check_shape K)) (C_is_prime : Cal P w K mg base 3 "is_prime" ["value"] (sp_is_prime K)) (C_choose : Cal P w K mg base 1 "choose" ["many", "few"] (sp_choose K)) (C_telling : Cal P w K mg base 5 "telling" ["lots", "contents", "need", "lost"] (sp_telling K)) (C_spread : Cal P w K mg base 1 "spread" ["held", "need", "lost"] (sp_spread K)) : FnOk P w K mg base CX0 6 f fd ["self", "disks", "lost", "records", "changes", "contents"] (sp_Array K C) := by
  obtain ⟨f_check_shape, fd_check_shape, G_check_shape, g_check_shape, kp_check_shape, bi_check_shape⟩ := C_check_shape.ex
  obtain ⟨f_is_prime, fd_is_prime, G_is_prime, g_is_prime, kp_is_prime, bi_is_prime⟩ := C_is_prime.ex
  obtain ⟨f_choose, fd_choose, G_choose, g_choose, kp_choose, bi_choose⟩ := C_choose.ex
  obtain ⟨f_telling, fd_telling, G_telling, g_telling, kp_telling, bi_telling⟩ := C_telling.ex
  obtain ⟨f_spread, fd_spread, G_spread, g_spread, kp_spread, bi_spread⟩ := C_spread.ex
  refine F.ok sc_Array (len_Array (K := K)) (fun cdv A outer s H vs Q E hr h => ?_)
  have hl : vs.length = 6 := len_Array (K := K) vs H Q E h
  match vs, hl, h with
  | [v0, v1, v2, v3, v4, v5], _, h => exact ⟨_, PSs.nox ((pss_cons (ps_expr (pe_call G_check_shape (hr.mono (Nat.le_of_ble_eq_true rfl)) rfl g_check_shape kp_check_shape bi_check_shape .nil pass0 (pa_cons (L2.pv 1) (pa_cons (L2.pv 2) (pa_cons (L2.pv 3) (pa_cons (L2.pv 4) pa_nil)))))) (pss_cons (ps_if (PW.pt (pw_or (pt_not (pt_val (pe_call G_is_prime (hr.mono (Nat.le_of_ble_eq_true rfl)) rfl g_is_prime kp_is_prime bi_is_prime .nil pass0 (pa_cons (L2.pv 5) pa_nil)))) (pw_or1 (pt_cmpR op_lt (L2.pv 5) (L2.pv 1) (nomark _))))) (pss_one ps_never) pss_nil) (pss_cons (ps_fld (L2.pv 0) (L2.pv 1) rfl) (pss_cons (ps_fld (L2.pv 0) (L2.pv 2) rfl) (pss_cons (ps_fld (L2.pv 0) (L2.pv 3) rfl) (pss_cons (ps_fld (L2.pv 0) (L2.pv 4) rfl) (pss_cons (ps_fld (L2.pv 0) (L2.pv 5) rfl) (pss_cons (ps_fld (L2.pv 0) (pe_op op_sub (L2.pv 1) (L2.pv 2)) rfl) (pss_cons (ps_fld (L2.pv 0) (pe_call G_choose (hr.mono (Nat.le_of_ble_eq_true rfl)) rfl g_choose kp_choose bi_choose .nil pass0 (pa_cons (L2.pv 3) (pa_cons (L2.pv 4) pa_nil))) rfl) (pss_cons (ps_set (i := 6) sc_Array.nd rfl (Or.inl rfl) (pe_call G_telling (hr.mono (Nat.le_of_ble_eq_true rfl)) rfl g_telling kp_telling bi_telling .nil pass0 (pa_cons (pe_fld (L2.pv 0) rfl) (pa_cons (L2.pv 5) (pa_cons (pe_fld (L2.pv 0) rfl) (pa_cons (L2.pv 2) pa_nil)))))) (pss_cons (ps_if (pt_cmpR op_isN (L2.pv 6) pe_non (nomark _)) (pss_one ps_never) pss_nil) (pss_cons (ps_asg (L2.pv 6) (pg_tup (n := 2) rfl (pgs_cons (pg_fldA (L2.pv 0)) (pgs_cons (pg_fldA (L2.pv 0)) pgs_nil)))) (pss_one (ps_fld (L2.pv 0) (pe_call G_spread (hr.mono (Nat.le_of_ble_eq_true rfl)) rfl g_spread kp_spread bi_spread .nil pass0 (pa_cons (pe_op op_add (pe_fld (L2.pv 0) rfl) pe_int) (pa_cons (pe_fld (L2.pv 0) rfl) (pa_cons (L2.pv 2) pa_nil)))) rfl))))))))))))))), promI_ok (n := 5) (ns := n_Array) (As := fun i : Int × Int × Int × Int × Int => [pv K i.1, pv K i.2.1, pv K i.2.2.1, pv K i.2.2.2.1, pv K i.2.2.2.2]) (m := fun i => m_Array i.1 i.2.1 i.2.2.1 i.2.2.2.1 i.2.2.2.2) (fl := fun x => [pv K x.f_disks, pv K x.f_lost, pv K x.f_records, pv K x.f_changes, pv K x.f_contents, pv K x.f_need, pv K x.f_lots, pv K x.f_symbols, pv K x.f_prime, pv K x.f_heads]) 1 (fun _ => rfl) rfl (fun (disks, lost, records, changes, contents) => (show RP _ (fun (s : Unit) => [.ow ((oin C [] []).at v0), .im (pv K disks), .im (pv K lost), .im (pv K records), .im (pv K changes), .im (pv K contents), .no]) (m_Array disks lost records changes contents) (fun (x : C_Array) (s : Unit) => .ow ((oin C n_Array [pv K x.f_disks, pv K x.f_lost, pv K x.f_records, pv K x.f_changes, pv K x.f_contents, pv K x.f_need, pv K x.f_lots, pv K x.f_symbols, pv K x.f_prime, pv K x.f_heads]).at v0) :: [.no, .no, .no, .no, .no, .no]) from (rp_seq (rp_drop (em_of_eo (eo_call0 (i := (disks, lost, records, changes)) (ps := [pv K disks, pv K lost, pv K records, pv K changes]) (fun _ => (ap_cons (ep_var rfl) (ap_cons (ep_var rfl) (ap_cons (ep_var rfl) (ap_cons (ep_var rfl) ap_nil))))) rfl))) fun u_152 => (rp_seq (rp_if (Γ' := fun t155 (s : Unit) => [.ow ((oin C [] []).at v0), .im (pv K disks), .im (pv K lost), .im (pv K records), .im (pv K changes), .im (pv K contents), .no]) (tm_or (tm_not (tm_B (em_of_eo (eo_call0 (i := contents) (ps := [pv K contents]) (fun _ => (ap_cons (ep_var rfl) ap_nil)) rfl)))) (tm_pure fun _ => (tp_test (ep_op (ep_var rfl) (ep_var rfl) o_lt)))) (rp_post (f := fun u_156 => ()) (rp_never (Γ' := fun u_156 (s : Unit) => [.ow ((oin C [] []).at v0), .im (pv K disks), .im (pv K lost), .im (pv K records), .im (pv K changes), .im (pv K contents), .no])) fun u_156 s => (.cons (.rfl _) (.cons (.rfl _) (.cons (.rfl _) (.cons (.rfl _) (.cons (.rfl _) (.cons (.rfl _) (.cons (.rfl _) .nil)))))))) (rp_next (x := ()) fun s => (.cons (.rfl _) (.cons (.rfl _) (.cons (.rfl _) (.cons (.rfl _) (.cons (.rfl _) (.cons (.rfl _) (.cons (.rfl _) .nil))))))))) fun t155 => (rp_seq (rp_fldI (all := n_Array) (ns := []) (ps := []) (C := C) (j := 0) (w := v0) (Γ := fun (s : Unit) => [.ow ((oin C [] []).at v0), .im (pv K disks), .im (pv K lost), .im (pv K records), .im (pv K changes), .im (pv K contents), .no]) (Γ' := fun disks157 (s : Unit) => [.ow ((oin C ["disks"] [pv K disks157]).at v0), .im (pv K disks), .im (pv K lost), .im (pv K records), .im (pv K changes), .im (pv K contents), .no]) (fun _ => rfl) rfl hc (by decide +kernel) (by decide +kernel) (by decide) (em_pure fun _ => (ep_var rfl)) fun _ _ => rfl) fun disks157 => (rp_seq (rp_fldI (all := n_Array) (ns := ["disks"]) (ps := [pv K disks157]) (C := C) (j := 0) (w := v0) (Γ := fun (s : Unit) => [.ow ((oin C ["disks"] [pv K disks157]).at v0), .im (pv K disks), .im (pv K lost), .im (pv K records), .im (pv K changes), .im (pv K contents), .no]) (Γ' := fun lost158 (s : Unit) => [.ow ((oin C ["disks", "lost"] [pv K disks157, pv K lost158]).at v0), .im (pv K disks), .im (pv K lost), .im (pv K records), .im (pv K changes), .im (pv K contents), .no]) (fun _ => rfl) rfl hc (by decide +kernel) (by decide +kernel) (by decide) (em_pure fun _ => (ep_var rfl)) fun _ _ => rfl) fun lost158 => (rp_seq (rp_fldI (all := n_Array) (ns := ["disks", "lost"]) (ps := [pv K disks157, pv K lost158]) (C := C) (j := 0) (w := v0) (Γ := fun (s : Unit) => [.ow ((oin C ["disks", "lost"] [pv K disks157, pv K lost158]).at v0), .im (pv K disks), .im (pv K lost), .im (pv K records), .im (pv K changes), .im (pv K contents), .no]) (Γ' := fun records159 (s : Unit) => [.ow ((oin C ["disks", "lost", "records"] [pv K disks157, pv K lost158, pv K records159]).at v0), .im (pv K disks), .im (pv K lost), .im (pv K records), .im (pv K changes), .im (pv K contents), .no]) (fun _ => rfl) rfl hc (by decide +kernel) (by decide +kernel) (by decide) (em_pure fun _ => (ep_var rfl)) fun _ _ => rfl) fun records159 => (rp_seq (rp_fldI (all := n_Array) (ns := ["disks", "lost", "records"]) (ps := [pv K disks157, pv K lost158, pv K records159]) (C := C) (j := 0) (w := v0) (Γ := fun (s : Unit) => [.ow ((oin C ["disks", "lost", "records"] [pv K disks157, pv K lost158, pv K records159]).at v0), .im (pv K disks), .im (pv K lost), .im (pv K records), .im (pv K changes), .im (pv K contents), .no]) (Γ' := fun changes160 (s : Unit) => [.ow ((oin C ["disks", "lost", "records", "changes"] [pv K disks157, pv K lost158, pv K records159, pv K changes160]).at v0), .im (pv K disks), .im (pv K lost), .im (pv K records), .im (pv K changes), .im (pv K contents), .no]) (fun _ => rfl) rfl hc (by decide +kernel) (by decide +kernel) (by decide) (em_pure fun _ => (ep_var rfl)) fun _ _ => rfl) fun changes160 => (rp_seq (rp_fldI (all := n_Array) (ns := ["disks", "lost", "records", "changes"]) (ps := [pv K disks157, pv K lost158, pv K records159, pv K changes160]) (C := C) (j := 0) (w := v0) (Γ := fun (s : Unit) => [.ow ((oin C ["disks", "lost", "records", "changes"] [pv K disks157, pv K lost158, pv K records159, pv K changes160]).at v0), .im (pv K disks), .im (pv K lost), .im (pv K records), .im (pv K changes), .im (pv K contents), .no]) (Γ' := fun contents161 (s : Unit) => [.ow ((oin C ["disks", "lost", "records", "changes", "contents"] [pv K disks157, pv K lost158, pv K records159, pv K changes160, pv K contents161]).at v0), .im (pv K disks), .im (pv K lost), .im (pv K records), .im (pv K changes), .im (pv K contents), .no]) (fun _ => rfl) rfl hc (by decide +kernel) (by decide +kernel) (by decide) (em_pure fun _ => (ep_var rfl)) fun _ _ => rfl) fun contents161 => (rp_seq (rp_fldI (all := n_Array) (ns := ["disks", "lost", "records", "changes", "contents"]) (ps := [pv K disks157, pv K lost158, pv K records159, pv K changes160, pv K contents161]) (C := C) (j := 0) (w := v0) (Γ := fun (s : Unit) => [.ow ((oin C ["disks", "lost", "records", "changes", "contents"] [pv K disks157, pv K lost158, pv K records159, pv K changes160, pv K contents161]).at v0), .im (pv K disks), .im (pv K lost), .im (pv K records), .im (pv K changes), .im (pv K contents), .no]) (Γ' := fun need162 (s : Unit) => [.ow ((oin C ["disks", "lost", "records", "changes", "contents", "need"] [pv K disks157, pv K lost158, pv K records159, pv K changes160, pv K contents161, pv K need162]).at v0), .im (pv K disks), .im (pv K lost), .im (pv K records), .im (pv K changes), .im (pv K contents), .no]) (fun _ => rfl) rfl hc (by decide +kernel) (by decide +kernel) (by decide) (em_pure fun _ => (ep_op (ep_var rfl) (ep_var rfl) o_sub)) fun _ _ => rfl) fun need162 => (rp_seq (rp_fldI (all := n_Array) (ns := ["disks", "lost", "records", "changes", "contents", "need"]) (ps := [pv K disks157, pv K lost158, pv K records159, pv K changes160, pv K contents161, pv K need162]) (C := C) (j := 0) (w := v0) (Γ := fun (s : Unit) => [.ow ((oin C ["disks", "lost", "records", "changes", "contents", "need"] [pv K disks157, pv K lost158, pv K records159, pv K changes160, pv K contents161, pv K need162]).at v0), .im (pv K disks), .im (pv K lost), .im (pv K records), .im (pv K changes), .im (pv K contents), .no]) (Γ' := fun lots163 (s : Unit) => [.ow ((oin C ["disks", "lost", "records", "changes", "contents", "need", "lots"] [pv K disks157, pv K lost158, pv K records159, pv K changes160, pv K contents161, pv K need162, pv K lots163]).at v0), .im (pv K disks), .im (pv K lost), .im (pv K records), .im (pv K changes), .im (pv K contents), .no]) (fun _ => rfl) rfl hc (by decide +kernel) (by decide +kernel) (by decide) (em_of_eo (eo_call0 (i := (records, changes)) (ps := [pv K records, pv K changes]) (fun _ => (ap_cons (ep_var rfl) (ap_cons (ep_var rfl) ap_nil))) rfl)) fun _ _ => rfl) fun lots163 => (rp_seq (rp_asg (Γ := fun (s : Unit) => [.ow ((oin C ["disks", "lost", "records", "changes", "contents", "need", "lots"] [pv K disks157, pv K lost158, pv K records159, pv K changes160, pv K contents161, pv K need162, pv K lots163]).at v0), .im (pv K disks), .im (pv K lost), .im (pv K records), .im (pv K changes), .im (pv K contents), .no]) (i := 6) (Γ' := fun found164 (s : Unit) => [.ow ((oin C ["disks", "lost", "records", "changes", "contents", "need", "lots"] [pv K disks157, pv K lost158, pv K records159, pv K changes160, pv K contents161, pv K need162, pv K lots163]).at v0), .im (pv K disks), .im (pv K lost), .im (pv K records), .im (pv K changes), .im (pv K contents), .im (pv K found164)]) (em_of_eo (eo_call0 (i := (lots163, contents, need162, lost)) (ps := [pv K lots163, pv K contents, pv K need162, pv K lost]) (fun _ => (ap_cons (ep_fldO (all := n_Array) (i := 6) rfl hc (by decide +kernel) (by decide +kernel) rfl) (ap_cons (ep_var rfl) (ap_cons (ep_fldO (all := n_Array) (i := 5) rfl hc (by decide +kernel) (by decide +kernel) rfl) (ap_cons (ep_var rfl) ap_nil))))) rfl)) (fun _ => rfl) fun _ _ => rfl) fun found164 => (rp_seq (rp_if (Γ' := fun t165 (s : Unit) => [.ow ((oin C ["disks", "lost", "records", "changes", "contents", "need", "lots"] [pv K disks157, pv K lost158, pv K records159, pv K changes160, pv K contents161, pv K need162, pv K lots163]).at v0), .im (pv K disks), .im (pv K lost), .im (pv K records), .im (pv K changes), .im (pv K contents), .im (pv K found164)]) (tm_pure fun _ => (tp_test (ep_op (ep_var rfl) (ep_non (K := K)) o_isNopt))) (rp_post (f := fun u_166 => ()) (rp_never (Γ' := fun u_166 (s : Unit) => [.ow ((oin C ["disks", "lost", "records", "changes", "contents", "need", "lots"] [pv K disks157, pv K lost158, pv K records159, pv K changes160, pv K contents161, pv K need162, pv K lots163]).at v0), .im (pv K disks), .im (pv K lost), .im (pv K records), .im (pv K changes), .im (pv K contents), .im (pv K found164)])) fun u_166 s => (.cons (.rfl _) (.cons (.rfl _) (.cons (.rfl _) (.cons (.rfl _) (.cons (.rfl _) (.cons (.rfl _) (.cons (.rfl _) .nil)))))))) (rp_next (x := ()) fun s => (.cons (.rfl _) (.cons (.rfl _) (.cons (.rfl _) (.cons (.rfl _) (.cons (.rfl _) (.cons (.rfl _) (.cons (.rfl _) .nil))))))))) fun t165 => (rp_seq (rp_tupF2 (all := n_Array) (ns := ["disks", "lost", "records", "changes", "contents", "need", "lots"]) (ps := [pv K disks157, pv K lost158, pv K records159, pv K changes160, pv K contents161, pv K need162, pv K lots163]) (C := C) (j := 0) (w := v0) (f1 := "symbols") (f2 := "prime") (Γ := fun (s : Unit) => [.ow ((oin C ["disks", "lost", "records", "changes", "contents", "need", "lots"] [pv K disks157, pv K lost158, pv K records159, pv K changes160, pv K contents161, pv K need162, pv K lots163]).at v0), .im (pv K disks), .im (pv K lost), .im (pv K records), .im (pv K changes), .im (pv K contents), .im (pv K found164)]) (Γ' := fun z167 (s : Unit) => [.ow ((oin C ["disks", "lost", "records", "changes", "contents", "need", "lots", "symbols", "prime"] [pv K disks157, pv K lost158, pv K records159, pv K changes160, pv K contents161, pv K need162, pv K lots163, pv K z167.1, pv K z167.2]).at v0), .im (pv K disks), .im (pv K lost), .im (pv K records), .im (pv K changes), .im (pv K contents), .im (pv K found164)]) (fun _ => rfl) (fun _ => Nat.le_of_ble_eq_true rfl) rfl hc (by decide +kernel) (by decide +kernel) (by decide +kernel) (by decide +kernel) (by decide) (em_unopt fun _ => (ep_var rfl)) fun _ _ => rfl) fun z167 => (rp_post (f := fun heads168 => (C_Array.mk disks157 lost158 records159 changes160 contents161 need162 lots163 z167.1 z167.2 heads168)) (rp_fldI (all := n_Array) (ns := ["disks", "lost", "records", "changes", "contents", "need", "lots", "symbols", "prime"]) (ps := [pv K disks157, pv K lost158, pv K records159, pv K changes160, pv K contents161, pv K need162, pv K lots163, pv K z167.1, pv K z167.2]) (C := C) (j := 0) (w := v0) (Γ := fun (s : Unit) => [.ow ((oin C ["disks", "lost", "records", "changes", "contents", "need", "lots", "symbols", "prime"] [pv K disks157, pv K lost158, pv K records159, pv K changes160, pv K contents161, pv K need162, pv K lots163, pv K z167.1, pv K z167.2]).at v0), .im (pv K disks), .im (pv K lost), .im (pv K records), .im (pv K changes), .im (pv K contents), .im (pv K found164)]) (Γ' := fun heads168 (s : Unit) => [.ow ((oin C ["disks", "lost", "records", "changes", "contents", "need", "lots", "symbols", "prime", "heads"] [pv K disks157, pv K lost158, pv K records159, pv K changes160, pv K contents161, pv K need162, pv K lots163, pv K z167.1, pv K z167.2, pv K heads168]).at v0), .im (pv K disks), .im (pv K lost), .im (pv K records), .im (pv K changes), .im (pv K contents), .im (pv K found164)]) (fun _ => rfl) rfl hc (by decide +kernel) (by decide +kernel) (by decide) (em_of_eo (eo_call0 (i := (((z167.1 + (1 : Int)) : Int), need162, lost)) (ps := [pv K ((z167.1 + (1 : Int)) : Int), pv K need162, pv K lost]) (fun _ => (ap_cons (ep_op (ep_fldO (all := n_Array) (i := 7) rfl hc (by decide +kernel) (by decide +kernel) rfl) (ep_int (K := K)) o_add) (ap_cons (ep_fldO (all := n_Array) (i := 5) rfl hc (by decide +kernel) (by decide +kernel) rfl) (ap_cons (ep_var rfl) ap_nil)))) rfl)) fun _ _ => rfl) fun heads168 s => (.cons (.rfl _) (.cons (.no _) (.cons (.no _) (.cons (.no _) (.cons (.no _) (.cons (.no _) (.cons (.no _) .nil)))))))))))))))))))))) h⟩
theorem ok_Array {C f : Addr} {fd : FuncData} (F : FunD K "__init__" "Array.__init__" (defArgs (inClass (top 43) 0)) (defBody (inClass (top 43) 0)) (defScope (inClass (top 43) 0)) [] [] f fd) (hg : mg "Array" = some (.ref C)) (M : Mk K C f) (hc : ClsN K C n_Array) (C_check_shape : Cal P w K mg base 3 "check_shape" ["disks", "lost", "records", "changes"] (sp_check_shape K)) (C_is_prime : Cal P w K mg base 3 "is_prime" ["value"] (sp_is_prime K)) (C_choose : Cal P w K mg base 1 "choose" ["many", "few"] (sp_choose K)) (C_telling : Cal P w K mg base 5 "telling" ["lots", "contents", "need", "lost"] (sp_telling K)) (C_spread : Cal P w K mg base 1 "spread" ["held", "need", "lost"] (sp_spread K)) : MakC P w K mg base 6 "Array" n_Array ["self", "disks", "lost", "records", "changes", "contents"] fun C => sp_Array K C := ⟨C, f, fd, hg, M, hc, fo_Array F hc C_check_shape C_is_prime C_choose C_telling C_spread, F.bindsN fun _ _ _ _ _ _ us hl => match us, hl with | [_, _, _, _, _, _], _ => rfl⟩
def m_head_code (array : C_Array) : Mn Unit (Option C_Code) :=
  (mb (mp (decide ((1 : Int) < array.f_symbols))) fun b176 => mi b176 (mb (mb (mb (mo array.f_prime) fun x_173 => mb (mb (mp array.f_heads) fun x_171 => mb (mb (mp array.f_symbols) fun x_169 => mb (mp ()) fun z170 => mp (x_169, z170)) fun z172 => mp (x_171, z172)) fun z174 => mp (x_173, z174)) fun z175 => mu (m_Code z175.1 z175.2.1 z175.2.2.1)) fun x => mp (some x)) (mp ((none : (Option C_Code)) : (Option C_Code))))
abbrev sp_head_code (K : PySem.W.Frag) : Sp := Prom (rIm K) (S := Unit) (fun i : C_Array => [.im (pv K i)]) fun i => m_head_code i
theorem len_head_code : ∀ vs H Q E, sp_head_code K vs H Q E → vs.length = 1 := prom_len (S := Unit) (Ret := (rIm K)) (As := fun i : C_Array => [.im (pv K i)]) (m := fun i => m_head_code i) fun _ => rfl
theorem sc_head_code : FnScope ["array"] ["array"] (defScope (top 44)) := ⟨rfl, rfl, rfl, by decide +kernel, rfl, by decide +kernel, by decide +kernel⟩
theorem fo_head_code {f : Addr} {fd : FuncData} (F : FnP K "head_code" (top 44) f fd) (K_Code : MakC P w K mg base 5 "Code" n_Code ["self", "prime", "length", "symbols"] fun C => sp_Code K C) : FnOk P w K mg base CX0 7 f fd ["array"] (sp_head_code K) := by
  obtain ⟨CC_Code, f_Code, fd_Code, g_Code, M_Code, hc_Code, G_Code, bi_Code⟩ := K_Code.ex
  refine F.ok sc_head_code (len_head_code (K := K)) (fun cdv A outer s H vs Q E hr h => ?_)
  have hl : vs.length = 1 := len_head_code (K := K) vs H Q E h
  match vs, hl, h with
  | [v0], _, h => exact ⟨_, PSs.nox ((pss_one (ps_ret (pe_ifExp (pt_cmpR op_gt (pe_fld (L2.pv 0) rfl) pe_int (nomark _)) (pe_make M_Code G_Code (hr.mono (Nat.le_of_ble_eq_true rfl)) rfl g_Code bi_Code .nil pass0 (pa_cons (pe_fld (L2.pv 0) rfl) (pa_cons (pe_fld (L2.pv 0) rfl) (pa_cons (pe_fld (L2.pv 0) rfl) pa_nil)))) pe_non)))), prom_ok (n := 1) (S := Unit) (Ret := (rIm K)) (As := fun i : C_Array => [.im (pv K i)]) (m := fun i => m_head_code i) 0 (fun _ => rfl) rfl (fun array => (show RN (rIm K) _ (fun (s : Unit) => [.im (pv K array)]) (m_head_code array) (fun (s : Unit) => [.no]) from (rn_of (rt_ret (em_if (tm_pure fun _ => (tp_test (ep_op (ep_fld (all := n_Array) (ns := n_Array) (i := 7) (ep_var rfl) (fun _ _ h => h) (by decide +kernel) (by decide +kernel) rfl) (ep_int (K := K)) o_gt))) (em_someN (em_own (eo_make (g := fun (z175 : Int × Int × Int × Unit) => (z175.1, z175.2.1, z175.2.2.1)) (am_cons (em_unopt fun _ => (ep_fld (all := n_Array) (ns := n_Array) (i := 8) (ep_var rfl) (fun _ _ h => h) (by decide +kernel) (by decide +kernel) rfl)) (am_cons (em_pure fun _ => (ep_fld (all := n_Array) (ns := n_Array) (i := 9) (ep_var rfl) (fun _ _ h => h) (by decide +kernel) (by decide +kernel) rfl)) (am_cons (em_pure fun _ => (ep_fld (all := n_Array) (ns := n_Array) (i := 7) (ep_var rfl) (fun _ _ h => h) (by decide +kernel) (by decide +kernel) rfl)) am_nil))) fun _ => rfl) fun x I a Ma d q => fr_oin hc_Code I a Ma d q)) (em_pure fun _ => ep_nonO)) fun s => (.cons (.no _) .nil))))) h⟩
theorem ok_head_code {f : Addr} {fd : FuncData} (F : FnP K "head_code" (top 44) f fd) (hg : mg "head_code" = some (.ref f)) (K_Code : MakC P w K mg base 5 "Code" n_Code ["self", "prime", "length", "symbols"] fun C => sp_Code K C) : Cal P w K mg base 7 "head_code" ["array"] (sp_head_code K) := ⟨f, fd, fo_head_code F K_Code, hg, F.kp, F.bindsN fun _ _ _ _ _ _ us hl => match us, hl with | [_], _ => rfl⟩
def m_are_records (array : C_Array) (value : (Sq Int)) (least : Int) (most : Int) : Mn Unit Bool :=
  (mb (mb (mb (mu (m_is_list__I value)) fun b177 => mp (!b177)) fun b178 => mi b178 (mp true) (mp (!(decide (least ≤ ((value.l.length : Nat) : Int)) && decide (((value.l.length : Nat) : Int) ≤ most))))) fun b => mi b
    (mp false)
    (mb (mb (mb (mb (mp value.l) fun xs => cmP xs (fun (a179 : Int) => (mp true)) fun a179 => (mu (m_is_between a179 ((0 : Int) : Int) ((array.f_records - (1 : Int)) : Int)))) fun x_180 => mb (mp ()) fun z181 => mp (x_180, z181)) fun z182 => mp (z182.1.all id)) fun b183 => mi b183 (mu (m_is_rising value)) (mp false)))
abbrev sp_are_records (K : PySem.W.Frag) : Sp := Prom (rIm K) (S := Unit) (fun i : C_Array × (Sq Int) × Int × Int => [.im (pv K i.1), .im (pv K i.2.1), .im (pv K i.2.2.1), .im (pv K i.2.2.2)]) fun i => m_are_records i.1 i.2.1 i.2.2.1 i.2.2.2
theorem len_are_records : ∀ vs H Q E, sp_are_records K vs H Q E → vs.length = 4 := prom_len (S := Unit) (Ret := (rIm K)) (As := fun i : C_Array × (Sq Int) × Int × Int => [.im (pv K i.1), .im (pv K i.2.1), .im (pv K i.2.2.1), .im (pv K i.2.2.2)]) (m := fun i => m_are_records i.1 i.2.1 i.2.2.1 i.2.2.2) fun _ => rfl
theorem sc_are_records : FnScope ["array", "value", "least", "most", "record"] ["array", "value", "least", "most"] (defScope (top 46)) := ⟨rfl, rfl, rfl, by decide +kernel, rfl, by decide +kernel, by decide +kernel⟩
theorem fo_are_records {f : Addr} {fd : FuncData} (F : FnP K "are_records" (top 46) f fd) (b_all : mg "all" = none) (b_len : mg "len" = none) (C_is_list__I : Cal P w K mg base 1 "is_list" ["value"] (sp_is_list__I K)) (C_is_between : Cal P w K mg base 2 "is_between" ["value", "least", "most"] (sp_is_between K)) (C_is_rising : Cal P w K mg base 1 "is_rising" ["items"] (sp_is_rising K)) : FnOk P w K mg base CX0 3 f fd ["array", "value", "least", "most"] (sp_are_records K) := by
  obtain ⟨f_is_list__I, fd_is_list__I, G_is_list__I, g_is_list__I, kp_is_list__I, bi_is_list__I⟩ := C_is_list__I.ex
  obtain ⟨f_is_between, fd_is_between, G_is_between, g_is_between, kp_is_between, bi_is_between⟩ := C_is_between.ex
  obtain ⟨f_is_rising, fd_is_rising, G_is_rising, g_is_rising, kp_is_rising, bi_is_rising⟩ := C_is_rising.ex
  refine F.ok sc_are_records (len_are_records (K := K)) (fun cdv A outer s H vs Q E hr h => ?_)
  have hl : vs.length = 4 := len_are_records (K := K) vs H Q E h
  match vs, hl, h with
  | [v0, v1, v2, v3], _, h => exact ⟨_, PSs.nox ((pss_cons (ps_if (PW.pt (pw_or (pt_not (pt_val (pe_call G_is_list__I (hr.mono (Nat.le_of_ble_eq_true rfl)) rfl g_is_list__I kp_is_list__I bi_is_list__I .nil pass0 (pa_cons (L2.pv 1) pa_nil)))) (pw_or1 (pt_not (pt_chain op_le op_le (L2.pv 2) (pe_callB call_len_seq rfl b_len bt_len (pa_cons (L2.pv 1) pa_nil)) (L2.pv 3)))))) (pss_one (ps_ret pe_bl)) pss_nil) (pss_one (ps_ret (pe_and (pe_callB (cr_all rfl) rfl b_all bt_all (pa_cons (pe_lc (own := [("record", 4)]) rfl sc_are_records.nd (pi_alt (pi_list (L2.pv 1)) (pi_tup (L2.pv 1))) (blkOk_by (own := [("record", 4)]) (N := ["array", "value", "least", "most", "record"]) (sc := defScope (top 46)) (by decide +kernel)) (fun _ _ _ _ _ => (pg_name (i := 4) sc_are_records.nd rfl (Or.inl rfl))) (fun _ _ _ _ _ => pts_nil) (fun _ _ _ _ _ => (pe_call G_is_between (hr.mono (Nat.le_of_ble_eq_true rfl)) rfl g_is_between kp_is_between bi_is_between .nil pass0 (pa_cons (L2.pv 4) (pa_cons pe_int (pa_cons (pe_op op_sub (pe_fld (L2.pv 0) rfl) pe_int) pa_nil)))))) pa_nil)) (pe_one (pe_call G_is_rising (hr.mono (Nat.le_of_ble_eq_true rfl)) rfl g_is_rising kp_is_rising bi_is_rising .nil pass0 (pa_cons (L2.pv 1) pa_nil)))))))), prom_ok (n := 4) (S := Unit) (Ret := (rIm K)) (As := fun i : C_Array × (Sq Int) × Int × Int => [.im (pv K i.1), .im (pv K i.2.1), .im (pv K i.2.2.1), .im (pv K i.2.2.2)]) (m := fun i => m_are_records i.1 i.2.1 i.2.2.1 i.2.2.2) 1 (fun _ => rfl) rfl (fun (array, value, least, most) => (show RN (rIm K) _ (fun (s : Unit) => [.im (pv K array), .im (pv K value), .im (pv K least), .im (pv K most), .no]) (m_are_records array value least most) (fun (s : Unit) => [.no, .no, .no, .no, .no]) from (rn_of (rt_ifr (tm_or (tm_not (tm_B (em_of_eo (eo_call0 (i := value) (ps := [pv K value]) (fun _ => (ap_cons (ep_var rfl) ap_nil)) rfl)))) (tm_pure fun _ => (tp_not (tp_test (ep_chain (ep_var rfl) (ep_cb (ap_cons (ep_var rfl) ap_nil) c_lenSq) (ep_var rfl) o_le o_le))))) (rt_ret (em_pure fun _ => (ep_bl (K := K))) fun s => (.cons (.no _) (.cons (.no _) (.cons (.no _) (.cons (.no _) (.cons (.rfl _) .nil)))))) (rt_ret (em_andV (em_cb (f := fun (z182 : (List Bool) × Unit) => (z182.1.all id)) (am_cons (em_lc (Γx := fun (a179 : Int) (s : Unit) => [.im (pv K array), .im (pv K value), .im (pv K least), .im (pv K most), .im (pv K a179)]) (js := [4]) (im_sq fun _ => (ep_var rfl)) (fun _ => rfl) (fun a179 s => (gt_name (Γ := [.im (pv K array), .im (pv K value), .im (pv K least), .im (pv K most), .no]) (i := 4) (Γ' := [.im (pv K array), .im (pv K value), .im (pv K least), .im (pv K most), .im (pv K a179)]) rfl rfl)) rfl (fun a179 => tm_yes) (fun a179 => (em_of_eo (eo_call0 (i := (a179, ((0 : Int) : Int), ((array.f_records - (1 : Int)) : Int))) (ps := [pv K a179, pv K ((0 : Int) : Int), pv K ((array.f_records - (1 : Int)) : Int)]) (fun _ => (ap_cons (ep_var rfl) (ap_cons (ep_int (K := K)) (ap_cons (ep_op (ep_fld (all := n_Array) (ns := n_Array) (i := 2) (ep_var rfl) (fun _ _ h => h) (by decide +kernel) (by decide +kernel) rfl) (ep_int (K := K)) o_sub) ap_nil)))) rfl))) fun a179 s => (.cons (.rfl _) (.cons (.rfl _) (.cons (.rfl _) (.cons (.rfl _) (.cons (.no _) .nil)))))) am_nil) fun _ => c_all) (em_of_eo (eo_call0 (i := value) (ps := [pv K value]) (fun _ => (ap_cons (ep_var rfl) ap_nil)) rfl))) fun s => (.cons (.no _) (.cons (.no _) (.cons (.no _) (.cons (.no _) (.cons (.rfl _) .nil)))))))))) h⟩
theorem ok_are_records {f : Addr} {fd : FuncData} (F : FnP K "are_records" (top 46) f fd) (hg : mg "are_records" = some (.ref f)) (b_all : mg "all" = none) (b_len : mg "len" = none) (C_is_list__I : Cal P w K mg base 1 "is_list" ["value"] (sp_is_list__I K)) (C_is_between : Cal P w K mg base 2 "is_between" ["value", "least", "most"] (sp_is_between K)) (C_is_rising : Cal P w K mg base 1 "is_rising" ["items"] (sp_is_rising K)) : Cal P w K mg base 3 "are_records" ["array", "value", "least", "most"] (sp_are_records K) := ⟨f, fd, fo_are_records F b_all b_len C_is_list__I C_is_between C_is_rising, hg, F.kp, F.bindsN fun _ _ _ _ _ _ us hl => match us, hl with | [_, _, _, _], _ => rfl⟩
def m_is_lot (array : C_Array) (value : (Sq Int)) : Mn Unit Bool :=
  (mu (m_are_records array value array.f_changes array.f_changes))
abbrev sp_is_lot (K : PySem.W.Frag) : Sp := Prom (rIm K) (S := Unit) (fun i : C_Array × (Sq Int) => [.im (pv K i.1), .im (pv K i.2)]) fun i => m_is_lot i.1 i.2
theorem len_is_lot : ∀ vs H Q E, sp_is_lot K vs H Q E → vs.length = 2 := prom_len (S := Unit) (Ret := (rIm K)) (As := fun i : C_Array × (Sq Int) => [.im (pv K i.1), .im (pv K i.2)]) (m := fun i => m_is_lot i.1 i.2) fun _ => rfl
theorem sc_is_lot : FnScope ["array", "value"] ["array", "value"] (defScope (top 47)) := ⟨rfl, rfl, rfl, by decide +kernel, rfl, by decide +kernel, by decide +kernel⟩
theorem fo_is_lot {f : Addr} {fd : FuncData} (F : FnP K "is_lot" (top 47) f fd) (C_are_records : Cal P w K mg base 3 "are_records" ["array", "value", "least", "most"] (sp_are_records K)) : FnOk P w K mg base CX0 4 f fd ["array", "value"] (sp_is_lot K) := by
  obtain ⟨f_are_records, fd_are_records, G_are_records, g_are_records, kp_are_records, bi_are_records⟩ := C_are_records.ex
  refine F.ok sc_is_lot (len_is_lot (K := K)) (fun cdv A outer s H vs Q E hr h => ?_)
  have hl : vs.length = 2 := len_is_lot (K := K) vs H Q E h
  match vs, hl, h with
  | [v0, v1], _, h => exact ⟨_, PSs.nox ((pss_one (ps_ret (pe_call G_are_records (hr.mono (Nat.le_of_ble_eq_true rfl)) rfl g_are_records kp_are_records bi_are_records .nil pass0 (pa_cons (L2.pv 0) (pa_cons (L2.pv 1) (pa_cons (pe_fld (L2.pv 0) rfl) (pa_cons (pe_fld (L2.pv 0) rfl) pa_nil)))))))), prom_ok (n := 2) (S := Unit) (Ret := (rIm K)) (As := fun i : C_Array × (Sq Int) => [.im (pv K i.1), .im (pv K i.2)]) (m := fun i => m_is_lot i.1 i.2) 0 (fun _ => rfl) rfl (fun (array, value) => (show RN (rIm K) _ (fun (s : Unit) => [.im (pv K array), .im (pv K value)]) (m_is_lot array value) (fun (s : Unit) => [.no, .no]) from (rn_of (rt_ret (em_of_eo (eo_call0 (i := (array, value, array.f_changes, array.f_changes)) (ps := [pv K array, pv K value, pv K array.f_changes, pv K array.f_changes]) (fun _ => (ap_cons (ep_var rfl) (ap_cons (ep_var rfl) (ap_cons (ep_fld (all := n_Array) (ns := n_Array) (i := 3) (ep_var rfl) (fun _ _ h => h) (by decide +kernel) (by decide +kernel) rfl) (ap_cons (ep_fld (all := n_Array) (ns := n_Array) (i := 3) (ep_var rfl) (fun _ _ h => h) (by decide +kernel) (by decide +kernel) rfl) ap_nil))))) rfl)) fun s => (.cons (.no _) (.cons (.no _) .nil)))))) h⟩
theorem ok_is_lot {f : Addr} {fd : FuncData} (F : FnP K "is_lot" (top 47) f fd) (hg : mg "is_lot" = some (.ref f)) (C_are_records : Cal P w K mg base 3 "are_records" ["array", "value", "least", "most"] (sp_are_records K)) : Cal P w K mg base 4 "is_lot" ["array", "value"] (sp_is_lot K) := ⟨f, fd, fo_is_lot F C_are_records, hg, F.kp, F.bindsN fun _ _ _ _ _ _ us hl => match us, hl with | [_, _], _ => rfl⟩
def m_check_lot (array : C_Array) (lot : (Sq Int)) : Mn Unit Unit :=
  (mb (mb (mu (m_is_lot array lot)) fun b184 => mp (!b184)) fun b => mi b
    mbad
    (mp ()))
abbrev sp_check_lot (K : PySem.W.Frag) : Sp := Prom (rIm K) (S := Unit) (fun i : C_Array × (Sq Int) => [.im (pv K i.1), .im (pv K i.2)]) fun i => m_check_lot i.1 i.2
theorem len_check_lot : ∀ vs H Q E, sp_check_lot K vs H Q E → vs.length = 2 := prom_len (S := Unit) (Ret := (rIm K)) (As := fun i : C_Array × (Sq Int) => [.im (pv K i.1), .im (pv K i.2)]) (m := fun i => m_check_lot i.1 i.2) fun _ => rfl
theorem sc_check_lot : FnScope ["array", "lot"] ["array", "lot"] (defScope (top 48)) := ⟨rfl, rfl, rfl, by decide +kernel, rfl, by decide +kernel, by decide +kernel⟩
theorem fo_check_lot {f : Addr} {fd : FuncData} (F : FnP K "check_lot" (top 48) f fd) (C_is_lot : Cal P w K mg base 4 "is_lot" ["array", "value"] (sp_is_lot K)) : FnOk P w K mg base CX0 5 f fd ["array", "lot"] (sp_check_lot K) := by
  obtain ⟨f_is_lot, fd_is_lot, G_is_lot, g_is_lot, kp_is_lot, bi_is_lot⟩ := C_is_lot.ex
  refine F.ok sc_check_lot (len_check_lot (K := K)) (fun cdv A outer s H vs Q E hr h => ?_)
  have hl : vs.length = 2 := len_check_lot (K := K) vs H Q E h
  match vs, hl, h with
  | [v0, v1], _, h => exact ⟨_, PSs.nox ((pss_one (ps_if (pt_not (pt_val (pe_call G_is_lot (hr.mono (Nat.le_of_ble_eq_true rfl)) rfl g_is_lot kp_is_lot bi_is_lot .nil pass0 (pa_cons (L2.pv 0) (pa_cons (L2.pv 1) pa_nil))))) (pss_one ps_never) pss_nil))), prom_ok (n := 2) (S := Unit) (Ret := (rIm K)) (As := fun i : C_Array × (Sq Int) => [.im (pv K i.1), .im (pv K i.2)]) (m := fun i => m_check_lot i.1 i.2) 0 (fun _ => rfl) rfl (fun (array, lot) => (show RN (rIm K) _ (fun (s : Unit) => [.im (pv K array), .im (pv K lot)]) (m_check_lot array lot) (fun (s : Unit) => [.no, .no]) from ((rn_if (tm_not (tm_B (em_of_eo (eo_call0 (i := (array, lot)) (ps := [pv K array, pv K lot]) (fun _ => (ap_cons (ep_var rfl) (ap_cons (ep_var rfl) ap_nil))) rfl)))) (rn_of rt_never) (rn_next fun s => (.cons (.no _) (.cons (.no _) .nil))))))) h⟩
theorem ok_check_lot {f : Addr} {fd : FuncData} (F : FnP K "check_lot" (top 48) f fd) (hg : mg "check_lot" = some (.ref f)) (C_is_lot : Cal P w K mg base 4 "is_lot" ["array", "value"] (sp_is_lot K)) : Cal P w K mg base 5 "check_lot" ["array", "lot"] (sp_check_lot K) := ⟨f, fd, fo_check_lot F C_is_lot, hg, F.kp, F.bindsN fun _ _ _ _ _ _ us hl => match us, hl with | [_, _], _ => rfl⟩
def m_lots_next (array : C_Array) (record : Int) (missing : Int) : Mn Unit Int :=
  (mb (mp (decide ((0 : Int) < missing))) fun b185 => mi b185 (mu (m_choose (((array.f_records - record) - (1 : Int)) : Int) ((missing - (1 : Int)) : Int))) (mp ((0 : Int) : Int)))
abbrev sp_lots_next (K : PySem.W.Frag) : Sp := Prom (rIm K) (S := Unit) (fun i : C_Array × Int × Int => [.im (pv K i.1), .im (pv K i.2.1), .im (pv K i.2.2)]) fun i => m_lots_next i.1 i.2.1 i.2.2
theorem len_lots_next : ∀ vs H Q E, sp_lots_next K vs H Q E → vs.length = 3 := prom_len (S := Unit) (Ret := (rIm K)) (As := fun i : C_Array × Int × Int => [.im (pv K i.1), .im (pv K i.2.1), .im (pv K i.2.2)]) (m := fun i => m_lots_next i.1 i.2.1 i.2.2) fun _ => rfl
theorem sc_lots_next : FnScope ["array", "record", "missing"] ["array", "record", "missing"] (defScope (top 49)) := ⟨rfl, rfl, rfl, by decide +kernel, rfl, by decide +kernel, by decide +kernel⟩
theorem fo_lots_next {f : Addr} {fd : FuncData} (F : FnP K "lots_next" (top 49) f fd) (C_choose : Cal P w K mg base 1 "choose" ["many", "few"] (sp_choose K)) : FnOk P w K mg base CX0 2 f fd ["array", "record", "missing"] (sp_lots_next K) := by
  obtain ⟨f_choose, fd_choose, G_choose, g_choose, kp_choose, bi_choose⟩ := C_choose.ex
  refine F.ok sc_lots_next (len_lots_next (K := K)) (fun cdv A outer s H vs Q E hr h => ?_)
  have hl : vs.length = 3 := len_lots_next (K := K) vs H Q E h
  match vs, hl, h with
  | [v0, v1, v2], _, h => exact ⟨_, PSs.nox ((pss_one (ps_ret (pe_ifExp (pt_cmpR op_gt (L2.pv 2) pe_int (nomark _)) (pe_call G_choose (hr.mono (Nat.le_of_ble_eq_true rfl)) rfl g_choose kp_choose bi_choose .nil pass0 (pa_cons (pe_op op_sub (pe_op op_sub (pe_fld (L2.pv 0) rfl) (L2.pv 1)) pe_int) (pa_cons (pe_op op_sub (L2.pv 2) pe_int) pa_nil))) pe_int)))), prom_ok (n := 3) (S := Unit) (Ret := (rIm K)) (As := fun i : C_Array × Int × Int => [.im (pv K i.1), .im (pv K i.2.1), .im (pv K i.2.2)]) (m := fun i => m_lots_next i.1 i.2.1 i.2.2) 0 (fun _ => rfl) rfl (fun (array, record, missing) => (show RN (rIm K) _ (fun (s : Unit) => [.im (pv K array), .im (pv K record), .im (pv K missing)]) (m_lots_next array record missing) (fun (s : Unit) => [.no, .no, .no]) from (rn_of (rt_ret (em_if (tm_pure fun _ => (tp_test (ep_op (ep_var rfl) (ep_int (K := K)) o_gt))) (em_of_eo (eo_call0 (i := ((((array.f_records - record) - (1 : Int)) : Int), ((missing - (1 : Int)) : Int))) (ps := [pv K (((array.f_records - record) - (1 : Int)) : Int), pv K ((missing - (1 : Int)) : Int)]) (fun _ => (ap_cons (ep_op (ep_op (ep_fld (all := n_Array) (ns := n_Array) (i := 2) (ep_var rfl) (fun _ _ h => h) (by decide +kernel) (by decide +kernel) rfl) (ep_var rfl) o_sub) (ep_int (K := K)) o_sub) (ap_cons (ep_op (ep_var rfl) (ep_int (K := K)) o_sub) ap_nil))) rfl)) (em_pure fun _ => (ep_int (K := K)))) fun s => (.cons (.no _) (.cons (.no _) (.cons (.no _) .nil))))))) h⟩
theorem ok_lots_next {f : Addr} {fd : FuncData} (F : FnP K "lots_next" (top 49) f fd) (hg : mg "lots_next" = some (.ref f)) (C_choose : Cal P w K mg base 1 "choose" ["many", "few"] (sp_choose K)) : Cal P w K mg base 2 "lots_next" ["array", "record", "missing"] (sp_lots_next K) := ⟨f, fd, fo_lots_next F C_choose, hg, F.kp, F.bindsN fun _ _ _ _ _ _ us hl => match us, hl with | [_, _, _], _ => rfl⟩
def m_lot_from (array : C_Array) (number : Int) : Mn Unit (List Int) :=
  (mb (mb (mp ([] : (List Int))) fun x_187 => mb (mp ()) fun z188 => mp (x_187, z188)) fun z186 =>
  (mb (mb (mc (b62 array.f_records) (rng 0 array.f_records.toNat)) fun xs => forP xs (z186.1, number) fun a190 (t189 : (List Int) × Int) =>
    (mb (mu (mu (m_lots_next array a190 ((array.f_changes - ((t189.1.length : Nat) : Int)) : Int)))) fun count191 =>
    (mb (mb (mp (decide (t189.2 < count191))) fun b => mi b
    (mb (mb (mp a190) fun x_194 => mc (lenOk t189.1.length) (t189.1 ++ [x_194])) fun found193 => mp (found193, t189.2))
    (mb (mb (mp count191) fun x_196 => mp (t189.2 - x_196)) fun ahead195 => mp (t189.1, ahead195))) fun t192 => mp (t192.1, t192.2)))) fun t197 =>
  (Mir.mg fun _ => t197.1)))
abbrev sp_lot_from (K : PySem.W.Frag) : Sp := Prom (rOw (ol K)) (S := Unit) (fun i : C_Array × Int => [.im (pv K i.1), .im (pv K i.2)]) fun i => m_lot_from i.1 i.2
theorem len_lot_from : ∀ vs H Q E, sp_lot_from K vs H Q E → vs.length = 2 := prom_len (S := Unit) (Ret := (rOw (ol K))) (As := fun i : C_Array × Int => [.im (pv K i.1), .im (pv K i.2)]) (m := fun i => m_lot_from i.1 i.2) fun _ => rfl
theorem sc_lot_from : FnScope ["array", "number", "found", "ahead", "record", "count"] ["array", "number"] (defScope (top 50)) := ⟨rfl, rfl, rfl, by decide +kernel, rfl, by decide +kernel, by decide +kernel⟩
theorem fo_lot_from {f : Addr} {fd : FuncData} (F : FnP K "lot_from" (top 50) f fd) (b_len : mg "len" = none) (b_range : mg "range" = none) (C_lots_next : Cal P w K mg base 2 "lots_next" ["array", "record", "missing"] (sp_lots_next K)) : FnOk P w K mg base CX0 3 f fd ["array", "number"] (sp_lot_from K) := by
  obtain ⟨f_lots_next, fd_lots_next, G_lots_next, g_lots_next, kp_lots_next, bi_lots_next⟩ := C_lots_next.ex
  refine F.ok sc_lot_from (len_lot_from (K := K)) (fun cdv A outer s H vs Q E hr h => ?_)
  have hl : vs.length = 2 := len_lot_from (K := K) vs H Q E h
  match vs, hl, h with
  | [v0, v1], _, h => exact ⟨_, PSs.nox ((pss_cons (ps_par (i := 2) (j := 3) rfl sc_lot_from.nd rfl rfl (by decide) rfl rfl (pa_cons (pe_lst pa_nil) (pa_cons (L2.pv 1) pa_nil)) rfl) (pss_cons (ps_for PassesOwn.never rfl (pi_range1 rfl b_range (pa_cons (pe_fld (L2.pv 0) rfl) pa_nil)) (pg_name (i := 4) sc_lot_from.nd rfl (Or.inl rfl)) (pss_cons (ps_set (i := 5) sc_lot_from.nd rfl (Or.inl rfl) (pe_call G_lots_next (hr.mono (Nat.le_of_ble_eq_true rfl)) rfl g_lots_next kp_lots_next bi_lots_next .nil pass0 (pa_cons (L2.pv 0) (pa_cons (L2.pv 4) (pa_cons (pe_op op_sub (pe_fld (L2.pv 0) rfl) (pe_callB call_len_seq rfl b_len bt_len (pa_cons (L2.pv 2) pa_nil))) pa_nil))))) (pss_one (ps_if (pt_cmpR op_lt (L2.pv 3) (L2.pv 5) (nomark _)) (pss_one (ps_expr (pe_bm PySem.F.plainAttrs_list PySem.F.slot_list_append PySem.F.type_list_append mt_append (L2.pv 2) (pa_cons (L2.pv 4) pa_nil)))) (pss_one (ps_aug (i := 3) sc_lot_from.nd rfl (Or.inl rfl) (L2.pv 5) ip_sub)))))) (pss_one (ps_ret (L2.pv 2)))))), prom_ok (n := 2) (S := Unit) (Ret := (rOw (ol K))) (As := fun i : C_Array × Int => [.im (pv K i.1), .im (pv K i.2)]) (m := fun i => m_lot_from i.1 i.2) 4 (fun _ => rfl) rfl (fun (array, number) => (show RN (rOw (ol K)) _ (fun (s : Unit) => [.im (pv K array), .im (pv K number), .no, .no, .no, .no]) (m_lot_from array number) (fun (s : Unit) => [.no, .no, .no, .no, .no, .no]) from (rn_of (rt_seq (rp_asg2 (Γ' := fun z186 (s : Unit) => [.im (pv K array), .im (pv K number), .ow (ol K z186.1), .im (pv K number), .no, .no]) (ao_o (eo_lst (xs := ([] : (List Int))) (fun _ => ap_nil)) (ao_p (fun _ => (ep_var rfl)) ao_nil)) (fun _ => asg_ok rfl) (fun _ => rfl) (fun _ => rfl) fun _ _ => rfl) fun z186 => (rt_seq (rp_for (ΓL := fun (t189 : (List Int) × Int) (s : Unit) => [.im (pv K array), .im (pv K number), .ow (ol K t189.1), .im (pv K t189.2), .no, .no]) (Γx := fun (a190 : Int) (t189 : (List Int) × Int) (s : Unit) => [.im (pv K array), .im (pv K number), .ow (ol K t189.1), .im (pv K t189.2), .im (pv K a190), .no]) (im_rng1 fun _ => (ap_cons (ep_fld (all := n_Array) (ns := n_Array) (i := 2) (ep_var rfl) (fun _ _ h => h) (by decide +kernel) (by decide +kernel) rfl) ap_nil)) (fun s => (.cons (.rfl _) (.cons (.rfl _) (.cons (.rfl _) (.cons (.rfl _) (.cons (.rfl _) (.cons (.rfl _) .nil))))))) (fun a190 t189 s => (gt_name (Γ := [.im (pv K array), .im (pv K number), .ow (ol K t189.1), .im (pv K t189.2), .no, .no]) (i := 4) (Γ' := [.im (pv K array), .im (pv K number), .ow (ol K t189.1), .im (pv K t189.2), .im (pv K a190), .no]) rfl rfl)) fun a190 t189 => (rp_seq (rp_asg (Γ := fun (s : Unit) => [.im (pv K array), .im (pv K number), .ow (ol K t189.1), .im (pv K t189.2), .im (pv K a190), .no]) (i := 5) (Γ' := fun count191 (s : Unit) => [.im (pv K array), .im (pv K number), .ow (ol K t189.1), .im (pv K t189.2), .im (pv K a190), .im (pv K count191)]) (em_bor (Γ0 := [.im (pv K array), .im (pv K number), .im (pv K t189.1), .im (pv K t189.2), .im (pv K a190), .no]) (fun _ => (.cons (.rfl _) (.cons (.rfl _) (.cons (.fr fr_ol) (.cons (.rfl _) (.cons (.rfl _) (.cons (.rfl _) .nil))))))) rfl (em_of_eo (eo_call0 (i := (array, a190, ((array.f_changes - ((t189.1.length : Nat) : Int)) : Int))) (ps := [pv K array, pv K a190, pv K ((array.f_changes - ((t189.1.length : Nat) : Int)) : Int)]) (fun _ => (ap_cons (ep_var rfl) (ap_cons (ep_var rfl) (ap_cons (ep_op (ep_fld (all := n_Array) (ns := n_Array) (i := 3) (ep_var rfl) (fun _ _ h => h) (by decide +kernel) (by decide +kernel) rfl) (ep_cb (ap_cons (ep_var rfl) ap_nil) c_lenL) o_sub) ap_nil)))) rfl))) (fun _ => rfl) fun _ _ => rfl) fun count191 => (rp_post (f := fun t192 => (t192.1, t192.2)) (rp_if (Γ' := fun t192 (s : Unit) => [.im (pv K array), .im (pv K number), .ow (ol K t192.1), .im (pv K t192.2), .im (pv K a190), .im (pv K count191)]) (tm_pure fun _ => (tp_test (ep_op (ep_var rfl) (ep_var rfl) o_lt))) (rp_post (f := fun found193 => (found193, t189.2)) (rp_app (Γ' := fun found193 (s : Unit) => [.im (pv K array), .im (pv K number), .ow (ol K found193), .im (pv K t189.2), .im (pv K a190), .im (pv K count191)]) (fun _ => rfl) (em_pure fun _ => (ep_var rfl)) fun _ _ => rfl) fun found193 s => (.cons (.rfl _) (.cons (.rfl _) (.cons (.rfl _) (.cons (.rfl _) (.cons (.rfl _) (.cons (.rfl _) .nil))))))) (rp_post (f := fun ahead195 => (t189.1, ahead195)) (rp_aug (Γ := (fun (s : Unit) => [.im (pv K array), .im (pv K number), .ow (ol K t189.1), .im (pv K t189.2), .im (pv K a190), .im (pv K count191)])) (i := 3) (Γ' := fun ahead195 (s : Unit) => [.im (pv K array), .im (pv K number), .ow (ol K t189.1), .im (pv K ahead195), .im (pv K a190), .im (pv K count191)]) (fun _ => rfl) (em_pure fun _ => (ep_var rfl)) (fun _ => rfl) fun _ _ => rfl) fun ahead195 s => (.cons (.rfl _) (.cons (.rfl _) (.cons (.rfl _) (.cons (.rfl _) (.cons (.rfl _) (.cons (.rfl _) .nil)))))))) fun t192 s => (.cons (.rfl _) (.cons (.rfl _) (.cons (.rfl _) (.cons (.rfl _) (.cons (.no _) (.cons (.no _) .nil))))))))) fun t197 => (rt_retv (fun s => rfl) (fun s I a Ma h => h) fun s => (.cons (.no _) (.cons (.no _) (.cons (.rfl _) (.cons (.no _) (.cons (.rfl _) (.cons (.rfl _) .nil)))))))))))) h⟩
theorem ok_lot_from {f : Addr} {fd : FuncData} (F : FnP K "lot_from" (top 50) f fd) (hg : mg "lot_from" = some (.ref f)) (b_len : mg "len" = none) (b_range : mg "range" = none) (C_lots_next : Cal P w K mg base 2 "lots_next" ["array", "record", "missing"] (sp_lots_next K)) : Cal P w K mg base 3 "lot_from" ["array", "number"] (sp_lot_from K) := ⟨f, fd, fo_lot_from F b_len b_range C_lots_next, hg, F.kp, F.bindsN fun _ _ _ _ _ _ us hl => match us, hl with | [_, _], _ => rfl⟩
def m_number_of_lot (array : C_Array) (lot : (Sq Int)) : Mn Unit Int :=
  (mb (mp ()) fun z198 =>
  (mb (mb (mc (b62 array.f_records) (rng 0 array.f_records.toNat)) fun xs => forP xs ((0 : Int), array.f_changes) fun a200 (t199 : Int × Int) =>
    (mb (mb (mp (decide (a200 ∈ lot.l))) fun b => mi b
    (mb (mb (mp ((1 : Int) : Int)) fun x_203 => mp (t199.2 - x_203)) fun missing202 => mp (t199.1, missing202))
    (mb (mb (mu (m_lots_next array a200 t199.2)) fun x_205 => mp (t199.1 + x_205)) fun found204 => mp (found204, t199.2))) fun t201 => mp (t201.1, t201.2))) fun t206 =>
  (mp t206.1)))
abbrev sp_number_of_lot (K : PySem.W.Frag) : Sp := Prom (rIm K) (S := Unit) (fun i : C_Array × (Sq Int) => [.im (pv K i.1), .im (pv K i.2)]) fun i => m_number_of_lot i.1 i.2
theorem len_number_of_lot : ∀ vs H Q E, sp_number_of_lot K vs H Q E → vs.length = 2 := prom_len (S := Unit) (Ret := (rIm K)) (As := fun i : C_Array × (Sq Int) => [.im (pv K i.1), .im (pv K i.2)]) (m := fun i => m_number_of_lot i.1 i.2) fun _ => rfl
theorem sc_number_of_lot : FnScope ["array", "lot", "found", "missing", "record"] ["array", "lot"] (defScope (top 51)) := ⟨rfl, rfl, rfl, by decide +kernel, rfl, by decide +kernel, by decide +kernel⟩
theorem fo_number_of_lot {f : Addr} {fd : FuncData} (F : FnP K "number_of_lot" (top 51) f fd) (b_range : mg "range" = none) (C_lots_next : Cal P w K mg base 2 "lots_next" ["array", "record", "missing"] (sp_lots_next K)) : FnOk P w K mg base CX0 3 f fd ["array", "lot"] (sp_number_of_lot K) := by
  obtain ⟨f_lots_next, fd_lots_next, G_lots_next, g_lots_next, kp_lots_next, bi_lots_next⟩ := C_lots_next.ex
  refine F.ok sc_number_of_lot (len_number_of_lot (K := K)) (fun cdv A outer s H vs Q E hr h => ?_)
  have hl : vs.length = 2 := len_number_of_lot (K := K) vs H Q E h
  match vs, hl, h with
  | [v0, v1], _, h => exact ⟨_, PSs.nox ((pss_cons (ps_par (i := 2) (j := 3) rfl sc_number_of_lot.nd rfl rfl (by decide) rfl rfl (pa_cons pe_int (pa_cons (pe_fld (L2.pv 0) rfl) pa_nil)) rfl) (pss_cons (ps_for PassesOwn.never rfl (pi_range1 rfl b_range (pa_cons (pe_fld (L2.pv 0) rfl) pa_nil)) (pg_name (i := 4) sc_number_of_lot.nd rfl (Or.inl rfl)) (pss_one (ps_if (pt_cmpR op_in_seq (L2.pv 4) (L2.pv 1) (by rfl)) (pss_one (ps_aug (i := 3) sc_number_of_lot.nd rfl (Or.inl rfl) pe_int ip_sub)) (pss_one (ps_aug (i := 2) sc_number_of_lot.nd rfl (Or.inl rfl) (pe_call G_lots_next (hr.mono (Nat.le_of_ble_eq_true rfl)) rfl g_lots_next kp_lots_next bi_lots_next .nil pass0 (pa_cons (L2.pv 0) (pa_cons (L2.pv 4) (pa_cons (L2.pv 3) pa_nil)))) ip_add))))) (pss_one (ps_ret (L2.pv 2)))))), prom_ok (n := 2) (S := Unit) (Ret := (rIm K)) (As := fun i : C_Array × (Sq Int) => [.im (pv K i.1), .im (pv K i.2)]) (m := fun i => m_number_of_lot i.1 i.2) 3 (fun _ => rfl) rfl (fun (array, lot) => (show RN (rIm K) _ (fun (s : Unit) => [.im (pv K array), .im (pv K lot), .no, .no, .no]) (m_number_of_lot array lot) (fun (s : Unit) => [.no, .no, .no, .no, .no]) from (rn_of (rt_seq (rp_asg2 (Γ' := fun z198 (s : Unit) => [.im (pv K array), .im (pv K lot), .im (pv K ((0 : Int) : Int)), .im (pv K array.f_changes), .no]) (ao_p (fun _ => (ep_int (K := K))) (ao_p (fun _ => (ep_fld (all := n_Array) (ns := n_Array) (i := 3) (ep_var rfl) (fun _ _ h => h) (by decide +kernel) (by decide +kernel) rfl)) ao_nil)) (fun _ => asg_ok rfl) (fun _ => rfl) (fun _ => rfl) fun _ _ => rfl) fun z198 => (rt_seq (rp_for (ΓL := fun (t199 : Int × Int) (s : Unit) => [.im (pv K array), .im (pv K lot), .im (pv K t199.1), .im (pv K t199.2), .no]) (Γx := fun (a200 : Int) (t199 : Int × Int) (s : Unit) => [.im (pv K array), .im (pv K lot), .im (pv K t199.1), .im (pv K t199.2), .im (pv K a200)]) (im_rng1 fun _ => (ap_cons (ep_fld (all := n_Array) (ns := n_Array) (i := 2) (ep_var rfl) (fun _ _ h => h) (by decide +kernel) (by decide +kernel) rfl) ap_nil)) (fun s => (.cons (.rfl _) (.cons (.rfl _) (.cons (.rfl _) (.cons (.rfl _) (.cons (.rfl _) .nil)))))) (fun a200 t199 s => (gt_name (Γ := [.im (pv K array), .im (pv K lot), .im (pv K t199.1), .im (pv K t199.2), .no]) (i := 4) (Γ' := [.im (pv K array), .im (pv K lot), .im (pv K t199.1), .im (pv K t199.2), .im (pv K a200)]) rfl rfl)) fun a200 t199 => (rp_post (f := fun t201 => (t201.1, t201.2)) (rp_if (Γ' := fun t201 (s : Unit) => [.im (pv K array), .im (pv K lot), .im (pv K t201.1), .im (pv K t201.2), .im (pv K a200)]) (tm_pure fun _ => (tp_test (ep_op (ep_var rfl) (ep_var rfl) o_inSq))) (rp_post (f := fun missing202 => (t199.1, missing202)) (rp_aug (Γ := (fun (s : Unit) => [.im (pv K array), .im (pv K lot), .im (pv K t199.1), .im (pv K t199.2), .im (pv K a200)])) (i := 3) (Γ' := fun missing202 (s : Unit) => [.im (pv K array), .im (pv K lot), .im (pv K t199.1), .im (pv K missing202), .im (pv K a200)]) (fun _ => rfl) (em_pure fun _ => (ep_int (K := K))) (fun _ => rfl) fun _ _ => rfl) fun missing202 s => (.cons (.rfl _) (.cons (.rfl _) (.cons (.rfl _) (.cons (.rfl _) (.cons (.rfl _) .nil)))))) (rp_post (f := fun found204 => (found204, t199.2)) (rp_aug (Γ := (fun (s : Unit) => [.im (pv K array), .im (pv K lot), .im (pv K t199.1), .im (pv K t199.2), .im (pv K a200)])) (i := 2) (Γ' := fun found204 (s : Unit) => [.im (pv K array), .im (pv K lot), .im (pv K found204), .im (pv K t199.2), .im (pv K a200)]) (fun _ => rfl) (em_of_eo (eo_call0 (i := (array, a200, t199.2)) (ps := [pv K array, pv K a200, pv K t199.2]) (fun _ => (ap_cons (ep_var rfl) (ap_cons (ep_var rfl) (ap_cons (ep_var rfl) ap_nil)))) rfl)) (fun _ => rfl) fun _ _ => rfl) fun found204 s => (.cons (.rfl _) (.cons (.rfl _) (.cons (.rfl _) (.cons (.rfl _) (.cons (.rfl _) .nil))))))) fun t201 s => (.cons (.rfl _) (.cons (.rfl _) (.cons (.rfl _) (.cons (.rfl _) (.cons (.no _) .nil))))))) fun t206 => (rt_ret (em_pure fun _ => (ep_var rfl)) fun s => (.cons (.no _) (.cons (.no _) (.cons (.no _) (.cons (.no _) (.cons (.rfl _) .nil))))))))))) h⟩
theorem ok_number_of_lot {f : Addr} {fd : FuncData} (F : FnP K "number_of_lot" (top 51) f fd) (hg : mg "number_of_lot" = some (.ref f)) (b_range : mg "range" = none) (C_lots_next : Cal P w K mg base 2 "lots_next" ["array", "record", "missing"] (sp_lots_next K)) : Cal P w K mg base 3 "number_of_lot" ["array", "lot"] (sp_number_of_lot K) := ⟨f, fd, fo_number_of_lot F b_range C_lots_next, hg, F.kp, F.bindsN fun _ _ _ _ _ _ us hl => match us, hl with | [_, _], _ => rfl⟩
def m_lot_number (array : C_Array) (lot : (Sq Int)) : Mn Unit Int :=
  (mb (mu (m_check_lot array lot)) fun u_207 =>
  (mu (m_number_of_lot array lot)))
abbrev sp_lot_number (K : PySem.W.Frag) : Sp := Prom (rIm K) (S := Unit) (fun i : C_Array × (Sq Int) => [.im (pv K i.1), .im (pv K i.2)]) fun i => m_lot_number i.1 i.2
theorem len_lot_number : ∀ vs H Q E, sp_lot_number K vs H Q E → vs.length = 2 := prom_len (S := Unit) (Ret := (rIm K)) (As := fun i : C_Array × (Sq Int) => [.im (pv K i.1), .im (pv K i.2)]) (m := fun i => m_lot_number i.1 i.2) fun _ => rfl
theorem sc_lot_number : FnScope ["array", "lot"] ["array", "lot"] (defScope (top 52)) := ⟨rfl, rfl, rfl, by decide +kernel, rfl, by decide +kernel, by decide +kernel⟩
theorem fo_lot_number {f : Addr} {fd : FuncData} (F : FnP K "lot_number" (top 52) f fd) (C_check_lot : Cal P w K mg base 5 "check_lot" ["array", "lot"] (sp_check_lot K)) (C_number_of_lot : Cal P w K mg base 3 "number_of_lot" ["array", "lot"] (sp_number_of_lot K)) : FnOk P w K mg base CX0 6 f fd ["array", "lot"] (sp_lot_number K) := by
  obtain ⟨f_check_lot, fd_check_lot, G_check_lot, g_check_lot, kp_check_lot, bi_check_lot⟩ := C_check_lot.ex
  obtain ⟨f_number_of_lot, fd_number_of_lot, G_number_of_lot, g_number_of_lot, kp_number_of_lot, bi_number_of_lot⟩ := C_number_of_lot.ex
  refine F.ok sc_lot_number (len_lot_number (K := K)) (fun cdv A outer s H vs Q E hr h => ?_)
  have hl : vs.length = 2 := len_lot_number (K := K) vs H Q E h
  match vs, hl, h with
  | [v0, v1], _, h => exact ⟨_, PSs.nox ((pss_cons (ps_expr (pe_call G_check_lot (hr.mono (Nat.le_of_ble_eq_true rfl)) rfl g_check_lot kp_check_lot bi_check_lot .nil pass0 (pa_cons (L2.pv 0) (pa_cons (L2.pv 1) pa_nil)))) (pss_one (ps_ret (pe_call G_number_of_lot (hr.mono (Nat.le_of_ble_eq_true rfl)) rfl g_number_of_lot kp_number_of_lot bi_number_of_lot .nil pass0 (pa_cons (L2.pv 0) (pa_cons (L2.pv 1) pa_nil))))))), prom_ok (n := 2) (S := Unit) (Ret := (rIm K)) (As := fun i : C_Array × (Sq Int) => [.im (pv K i.1), .im (pv K i.2)]) (m := fun i => m_lot_number i.1 i.2) 0 (fun _ => rfl) rfl (fun (array, lot) => (show RN (rIm K) _ (fun (s : Unit) => [.im (pv K array), .im (pv K lot)]) (m_lot_number array lot) (fun (s : Unit) => [.no, .no]) from (rn_of (rt_seq (rp_drop (em_of_eo (eo_call0 (i := (array, lot)) (ps := [pv K array, pv K lot]) (fun _ => (ap_cons (ep_var rfl) (ap_cons (ep_var rfl) ap_nil))) rfl))) fun u_207 => (rt_ret (em_of_eo (eo_call0 (i := (array, lot)) (ps := [pv K array, pv K lot]) (fun _ => (ap_cons (ep_var rfl) (ap_cons (ep_var rfl) ap_nil))) rfl)) fun s => (.cons (.no _) (.cons (.no _) .nil))))))) h⟩
theorem ok_lot_number {f : Addr} {fd : FuncData} (F : FnP K "lot_number" (top 52) f fd) (hg : mg "lot_number" = some (.ref f)) (C_check_lot : Cal P w K mg base 5 "check_lot" ["array", "lot"] (sp_check_lot K)) (C_number_of_lot : Cal P w K mg base 3 "number_of_lot" ["array", "lot"] (sp_number_of_lot K)) : Cal P w K mg base 6 "lot_number" ["array", "lot"] (sp_lot_number K) := ⟨f, fd, fo_lot_number F C_check_lot C_number_of_lot, hg, F.kp, F.bindsN fun _ _ _ _ _ _ us hl => match us, hl with | [_, _], _ => rfl⟩
def m_word_of_lot (array : C_Array) (lot : (Sq Int)) : Mn Unit (Tu Int) :=
  (mb (mp (decide (array.f_symbols = (0 : Int)))) fun b => mi b
    (mc (repTOk (Tu.mk [(1 : Int)]).l.length array.f_heads) (Tu.mk (repL (Tu.mk [(1 : Int)]).l array.f_heads)))
    (mb (mu (m_number_of_lot array lot)) fun number208 =>
  (mb (mp (decide (array.f_symbols = (1 : Int)))) fun b => mi b
    (mc (repTOk (Tu.mk [(number208 + (1 : Int))]).l.length array.f_heads) (Tu.mk (repL (Tu.mk [(number208 + (1 : Int))]).l array.f_heads)))
    (mb (mb (mb (mb (mu (m_head_code array)) fun o => mo o) fun x_218 => mb (mb (mb (mb (mp number208) fun x_213 => mb (mb (mo array.f_prime) fun x_211 => mb (mb (mp array.f_symbols) fun x_209 => mb (mp ()) fun z210 => mp (x_209, z210)) fun z212 => mp (x_211, z212)) fun z214 => mp (x_213, z214)) fun z215 => (mu (m_figures z215.1 z215.2.1 z215.2.2.1))) fun x_216 => mb (mp ()) fun z217 => mp (x_216, z217)) fun z219 => mp (x_218, z219)) fun z220 => (mu (m_word_of z220.1 z220.2.1))) fun symbols221 =>
  (mb (mb (mb (mp symbols221.l) fun xs => cmP xs (fun (a222 : Int) => (mp true)) fun a222 => (mp ((a222 + (1 : Int)) : Int))) fun x_223 => mb (mp ()) fun z224 => mp (x_223, z224)) fun z225 => mp (Tu.mk z225.1))))))
abbrev sp_word_of_lot (K : PySem.W.Frag) : Sp := Prom (rIm K) (S := Unit) (fun i : C_Array × (Sq Int) => [.im (pv K i.1), .im (pv K i.2)]) fun i => m_word_of_lot i.1 i.2
theorem len_word_of_lot : ∀ vs H Q E, sp_word_of_lot K vs H Q E → vs.length = 2 := prom_len (S := Unit) (Ret := (rIm K)) (As := fun i : C_Array × (Sq Int) => [.im (pv K i.1), .im (pv K i.2)]) (m := fun i => m_word_of_lot i.1 i.2) fun _ => rfl
theorem sc_word_of_lot : FnScope ["array", "lot", "number", "symbols", "symbol"] ["array", "lot"] (defScope (top 53)) := ⟨rfl, rfl, rfl, by decide +kernel, rfl, by decide +kernel, by decide +kernel⟩
theorem fo_word_of_lot {f : Addr} {fd : FuncData} (F : FnP K "word_of_lot" (top 53) f fd) (b_tuple : mg "tuple" = none) (C_number_of_lot : Cal P w K mg base 3 "number_of_lot" ["array", "lot"] (sp_number_of_lot K)) (C_word_of : Cal P w K mg base 2 "word_of" ["code", "data"] (sp_word_of K)) (C_head_code : Cal P w K mg base 7 "head_code" ["array"] (sp_head_code K)) (C_figures : Cal P w K mg base 1 "figures" ["number", "base", "many"] (sp_figures K)) : FnOk P w K mg base CX0 8 f fd ["array", "lot"] (sp_word_of_lot K) := by
  obtain ⟨f_number_of_lot, fd_number_of_lot, G_number_of_lot, g_number_of_lot, kp_number_of_lot, bi_number_of_lot⟩ := C_number_of_lot.ex
  obtain ⟨f_word_of, fd_word_of, G_word_of, g_word_of, kp_word_of, bi_word_of⟩ := C_word_of.ex
  obtain ⟨f_head_code, fd_head_code, G_head_code, g_head_code, kp_head_code, bi_head_code⟩ := C_head_code.ex
  obtain ⟨f_figures, fd_figures, G_figures, g_figures, kp_figures, bi_figures⟩ := C_figures.ex
  refine F.ok sc_word_of_lot (len_word_of_lot (K := K)) (fun cdv A outer s H vs Q E hr h => ?_)
  have hl : vs.length = 2 := len_word_of_lot (K := K) vs H Q E h
  match vs, hl, h with
  | [v0, v1], _, h => exact ⟨_, PSs.nox ((pss_cons (ps_if (pt_cmpR op_eq (pe_fld (L2.pv 0) rfl) pe_int (nomark _)) (pss_one (ps_ret (pe_op op_repT (pe_tup (pa_cons pe_int pa_nil)) (pe_fld (L2.pv 0) rfl)))) pss_nil) (pss_cons (ps_set (i := 2) sc_word_of_lot.nd rfl (Or.inl rfl) (pe_call G_number_of_lot (hr.mono (Nat.le_of_ble_eq_true rfl)) rfl g_number_of_lot kp_number_of_lot bi_number_of_lot .nil pass0 (pa_cons (L2.pv 0) (pa_cons (L2.pv 1) pa_nil)))) (pss_cons (ps_if (pt_cmpR op_eq (pe_fld (L2.pv 0) rfl) pe_int (nomark _)) (pss_one (ps_ret (pe_op op_repT (pe_tup (pa_cons (pe_op op_add (L2.pv 2) pe_int) pa_nil)) (pe_fld (L2.pv 0) rfl)))) pss_nil) (pss_cons (ps_set (i := 3) sc_word_of_lot.nd rfl (Or.inl rfl) (pe_call G_word_of (hr.mono (Nat.le_of_ble_eq_true rfl)) rfl g_word_of kp_word_of bi_word_of .nil pass0 (pa_cons (pe_call G_head_code (hr.mono (Nat.le_of_ble_eq_true rfl)) rfl g_head_code kp_head_code bi_head_code .nil pass0 (pa_cons (L2.pv 0) pa_nil)) (pa_cons (pe_call G_figures (hr.mono (Nat.le_of_ble_eq_true rfl)) rfl g_figures kp_figures bi_figures .nil pass0 (pa_cons (L2.pv 2) (pa_cons (pe_fld (L2.pv 0) rfl) (pa_cons (pe_fld (L2.pv 0) rfl) pa_nil)))) pa_nil)))) (pss_one (ps_ret (pe_callTy call_tuple_of rfl b_tuple bt_tuple (pa_cons (pe_lc (own := [("symbol", 4)]) rfl sc_word_of_lot.nd (pi_tup (L2.pv 3)) (blkOk_by (own := [("symbol", 4)]) (N := ["array", "lot", "number", "symbols", "symbol"]) (sc := defScope (top 53)) (by decide +kernel)) (fun _ _ _ _ _ => (pg_name (i := 4) sc_word_of_lot.nd rfl (Or.inl rfl))) (fun _ _ _ _ _ => pts_nil) (fun _ _ _ _ _ => (pe_op op_add (L2.pv 4) pe_int))) pa_nil))))))))), prom_ok (n := 2) (S := Unit) (Ret := (rIm K)) (As := fun i : C_Array × (Sq Int) => [.im (pv K i.1), .im (pv K i.2)]) (m := fun i => m_word_of_lot i.1 i.2) 3 (fun _ => rfl) rfl (fun (array, lot) => (show RN (rIm K) _ (fun (s : Unit) => [.im (pv K array), .im (pv K lot), .no, .no, .no]) (m_word_of_lot array lot) (fun (s : Unit) => [.no, .no, .no, .no, .no]) from (rn_of (rt_ifr (tm_pure fun _ => (tp_test (ep_op (ep_fld (all := n_Array) (ns := n_Array) (i := 7) (ep_var rfl) (fun _ _ h => h) (by decide +kernel) (by decide +kernel) rfl) (ep_int (K := K)) o_eq))) (rt_ret (em_opC2 (fun _ => (ep_tup (ap_cons (ep_int (K := K)) ap_nil) (tupTu (xs := [(1 : Int)]) (Nat.le_of_ble_eq_true rfl)))) (fun _ => (ep_fld (all := n_Array) (ns := n_Array) (i := 9) (ep_var rfl) (fun _ _ h => h) (by decide +kernel) (by decide +kernel) rfl)) fun h => (o_repT h)) fun s => (.cons (.no _) (.cons (.no _) (.cons (.rfl _) (.cons (.rfl _) (.cons (.rfl _) .nil)))))) (rt_seq (rp_asg (Γ := fun (s : Unit) => [.im (pv K array), .im (pv K lot), .no, .no, .no]) (i := 2) (Γ' := fun number208 (s : Unit) => [.im (pv K array), .im (pv K lot), .im (pv K number208), .no, .no]) (em_of_eo (eo_call0 (i := (array, lot)) (ps := [pv K array, pv K lot]) (fun _ => (ap_cons (ep_var rfl) (ap_cons (ep_var rfl) ap_nil))) rfl)) (fun _ => rfl) fun _ _ => rfl) fun number208 => (rt_ifr (tm_pure fun _ => (tp_test (ep_op (ep_fld (all := n_Array) (ns := n_Array) (i := 7) (ep_var rfl) (fun _ _ h => h) (by decide +kernel) (by decide +kernel) rfl) (ep_int (K := K)) o_eq))) (rt_ret (em_opC2 (fun _ => (ep_tup (ap_cons (ep_op (ep_var rfl) (ep_int (K := K)) o_add) ap_nil) (tupTu (xs := [(number208 + (1 : Int))]) (Nat.le_of_ble_eq_true rfl)))) (fun _ => (ep_fld (all := n_Array) (ns := n_Array) (i := 9) (ep_var rfl) (fun _ _ h => h) (by decide +kernel) (by decide +kernel) rfl)) fun h => (o_repT h)) fun s => (.cons (.no _) (.cons (.no _) (.cons (.no _) (.cons (.rfl _) (.cons (.rfl _) .nil)))))) (rt_seq (rp_asg (Γ := fun (s : Unit) => [.im (pv K array), .im (pv K lot), .im (pv K number208), .no, .no]) (i := 3) (Γ' := fun symbols221 (s : Unit) => [.im (pv K array), .im (pv K lot), .im (pv K number208), .im (pv K symbols221), .no]) (em_of_eo (eo_call0M (f := fun (z220 : C_Code × (Tu Int) × Unit) => (z220.1, z220.2.1)) (am_cons (em_unoptM (em_of_eo (eo_call0 (i := array) (ps := [pv K array]) (fun _ => (ap_cons (ep_var rfl) ap_nil)) rfl))) (am_cons (em_of_eo (eo_call0M (f := fun (z215 : Int × Int × Int × Unit) => (z215.1, z215.2.1, z215.2.2.1)) (am_cons (em_pure fun _ => (ep_var rfl)) (am_cons (em_unopt fun _ => (ep_fld (all := n_Array) (ns := n_Array) (i := 8) (ep_var rfl) (fun _ _ h => h) (by decide +kernel) (by decide +kernel) rfl)) (am_cons (em_pure fun _ => (ep_fld (all := n_Array) (ns := n_Array) (i := 7) (ep_var rfl) (fun _ _ h => h) (by decide +kernel) (by decide +kernel) rfl)) am_nil))) fun _ => rfl)) am_nil)) fun _ => rfl)) (fun _ => rfl) fun _ _ => rfl) fun symbols221 => (rt_ret (em_cb (f := fun (z225 : (List Int) × Unit) => Tu.mk z225.1) (am_cons (em_lc (Γx := fun (a222 : Int) (s : Unit) => [.im (pv K array), .im (pv K lot), .im (pv K number208), .im (pv K symbols221), .im (pv K a222)]) (js := [4]) (im_tup fun _ => (ep_var rfl)) (fun _ => rfl) (fun a222 s => (gt_name (Γ := [.im (pv K array), .im (pv K lot), .im (pv K number208), .im (pv K symbols221), .no]) (i := 4) (Γ' := [.im (pv K array), .im (pv K lot), .im (pv K number208), .im (pv K symbols221), .im (pv K a222)]) rfl rfl)) rfl (fun a222 => tm_yes) (fun a222 => (em_pure fun _ => (ep_op (ep_var rfl) (ep_int (K := K)) o_add))) fun a222 s => (.cons (.rfl _) (.cons (.rfl _) (.cons (.rfl _) (.cons (.rfl _) (.cons (.no _) .nil)))))) am_nil) fun _ => c_tupL) fun s => (.cons (.no _) (.cons (.no _) (.cons (.no _) (.cons (.no _) (.cons (.rfl _) .nil))))))))))))) h⟩
theorem ok_word_of_lot {f : Addr} {fd : FuncData} (F : FnP K "word_of_lot" (top 53) f fd) (hg : mg "word_of_lot" = some (.ref f)) (b_tuple : mg "tuple" = none) (C_number_of_lot : Cal P w K mg base 3 "number_of_lot" ["array", "lot"] (sp_number_of_lot K)) (C_word_of : Cal P w K mg base 2 "word_of" ["code", "data"] (sp_word_of K)) (C_head_code : Cal P w K mg base 7 "head_code" ["array"] (sp_head_code K)) (C_figures : Cal P w K mg base 1 "figures" ["number", "base", "many"] (sp_figures K)) : Cal P w K mg base 8 "word_of_lot" ["array", "lot"] (sp_word_of_lot K) := ⟨f, fd, fo_word_of_lot F b_tuple C_number_of_lot C_word_of C_head_code C_figures, hg, F.kp, F.bindsN fun _ _ _ _ _ _ us hl => match us, hl with | [_, _], _ => rfl⟩
def m_head_word (array : C_Array) (lot : (Sq Int)) : Mn Unit (Tu Int) :=
  (mb (mu (m_check_lot array lot)) fun u_226 =>
  (mu (m_word_of_lot array lot)))
abbrev sp_head_word (K : PySem.W.Frag) : Sp := Prom (rIm K) (S := Unit) (fun i : C_Array × (Sq Int) => [.im (pv K i.1), .im (pv K i.2)]) fun i => m_head_word i.1 i.2
theorem len_head_word : ∀ vs H Q E, sp_head_word K vs H Q E → vs.length = 2 := prom_len (S := Unit) (Ret := (rIm K)) (As := fun i : C_Array × (Sq Int) => [.im (pv K i.1), .im (pv K i.2)]) (m := fun i => m_head_word i.1 i.2) fun _ => rfl
theorem sc_head_word : FnScope ["array", "lot"] ["array", "lot"] (defScope (top 54)) := ⟨rfl, rfl, rfl, by decide +kernel, rfl, by decide +kernel, by decide +kernel⟩
theorem fo_head_word {f : Addr} {fd : FuncData} (F : FnP K "head_word" (top 54) f fd) (C_check_lot : Cal P w K mg base 5 "check_lot" ["array", "lot"] (sp_check_lot K)) (C_word_of_lot : Cal P w K mg base 8 "word_of_lot" ["array", "lot"] (sp_word_of_lot K)) : FnOk P w K mg base CX0 9 f fd ["array", "lot"] (sp_head_word K) := by
  obtain ⟨f_check_lot, fd_check_lot, G_check_lot, g_check_lot, kp_check_lot, bi_check_lot⟩ := C_check_lot.ex
  obtain ⟨f_word_of_lot, fd_word_of_lot, G_word_of_lot, g_word_of_lot, kp_word_of_lot, bi_word_of_lot⟩ := C_word_of_lot.ex
  refine F.ok sc_head_word (len_head_word (K := K)) (fun cdv A outer s H vs Q E hr h => ?_)
  have hl : vs.length = 2 := len_head_word (K := K) vs H Q E h
  match vs, hl, h with
  | [v0, v1], _, h => exact ⟨_, PSs.nox ((pss_cons (ps_expr (pe_call G_check_lot (hr.mono (Nat.le_of_ble_eq_true rfl)) rfl g_check_lot kp_check_lot bi_check_lot .nil pass0 (pa_cons (L2.pv 0) (pa_cons (L2.pv 1) pa_nil)))) (pss_one (ps_ret (pe_call G_word_of_lot (hr.mono (Nat.le_of_ble_eq_true rfl)) rfl g_word_of_lot kp_word_of_lot bi_word_of_lot .nil pass0 (pa_cons (L2.pv 0) (pa_cons (L2.pv 1) pa_nil))))))), prom_ok (n := 2) (S := Unit) (Ret := (rIm K)) (As := fun i : C_Array × (Sq Int) => [.im (pv K i.1), .im (pv K i.2)]) (m := fun i => m_head_word i.1 i.2) 0 (fun _ => rfl) rfl (fun (array, lot) => (show RN (rIm K) _ (fun (s : Unit) => [.im (pv K array), .im (pv K lot)]) (m_head_word array lot) (fun (s : Unit) => [.no, .no]) from (rn_of (rt_seq (rp_drop (em_of_eo (eo_call0 (i := (array, lot)) (ps := [pv K array, pv K lot]) (fun _ => (ap_cons (ep_var rfl) (ap_cons (ep_var rfl) ap_nil))) rfl))) fun u_226 => (rt_ret (em_of_eo (eo_call0 (i := (array, lot)) (ps := [pv K array, pv K lot]) (fun _ => (ap_cons (ep_var rfl) (ap_cons (ep_var rfl) ap_nil))) rfl)) fun s => (.cons (.no _) (.cons (.no _) .nil))))))) h⟩
theorem ok_head_word {f : Addr} {fd : FuncData} (F : FnP K "head_word" (top 54) f fd) (hg : mg "head_word" = some (.ref f)) (C_check_lot : Cal P w K mg base 5 "check_lot" ["array", "lot"] (sp_check_lot K)) (C_word_of_lot : Cal P w K mg base 8 "word_of_lot" ["array", "lot"] (sp_word_of_lot K)) : Cal P w K mg base 9 "head_word" ["array", "lot"] (sp_head_word K) := ⟨f, fd, fo_head_word F C_check_lot C_word_of_lot, hg, F.kp, F.bindsN fun _ _ _ _ _ _ us hl => match us, hl with | [_, _], _ => rfl⟩
def m_are_heads (array : C_Array) (value : (Sq (Int × Int))) (least : Int) : Mn Unit Bool :=
  (mb (mb (mb (mu (m_is_list__P value)) fun b227 => mp (!b227)) fun b233 => mi b233 (mp true) (mb (mb (mb (mb (mp value.l) fun xs => cmP xs (fun (a228 : (Int × Int)) => (mp true)) fun a228 => (mu (m_is_tuple_of a228 ((2 : Int) : Int)))) fun x_229 => mb (mp ()) fun z230 => mp (x_229, z230)) fun z231 => mp (z231.1.all id)) fun b232 => mp (!b232))) fun b => mi b
    (mp false)
    (mb (mb (mp value.l) fun xs => cmP xs (fun (a234 : (Int × Int)) => (mp true)) fun a234 => (mp a234.1)) fun heads235 =>
  (mb (mb (mb (mb (mb (mb (mp heads235) fun xs => cmP xs (fun (a236 : Int) => (mp true)) fun a236 => (mu (m_is_between a236 ((0 : Int) : Int) ((array.f_heads - (1 : Int)) : Int)))) fun x_237 => mb (mp ()) fun z238 => mp (x_237, z238)) fun z239 => mp (z239.1.all id)) fun b240 => mp (!b240)) fun b242 => mi b242 (mp true) (mb (mu (m_is_rising ((Sq.mk false heads235) : (Sq Int)))) fun b241 => mp (!b241))) fun b => mi b
    (mp false)
    (mb (mb (mb (mp value.l) fun xs => cmP xs (fun (a243 : (Int × Int)) => (mp true)) fun a243 => (mu (m_is_between a243.2 least ((array.f_contents - (1 : Int)) : Int)))) fun x_244 => mb (mp ()) fun z245 => mp (x_244, z245)) fun z246 => mp (z246.1.all id)))))
abbrev sp_are_heads (K : PySem.W.Frag) : Sp := Prom (rIm K) (S := Unit) (fun i : C_Array × (Sq (Int × Int)) × Int => [.im (pv K i.1), .im (pv K i.2.1), .im (pv K i.2.2)]) fun i => m_are_heads i.1 i.2.1 i.2.2
theorem len_are_heads : ∀ vs H Q E, sp_are_heads K vs H Q E → vs.length = 3 := prom_len (S := Unit) (Ret := (rIm K)) (As := fun i : C_Array × (Sq (Int × Int)) × Int => [.im (pv K i.1), .im (pv K i.2.1), .im (pv K i.2.2)]) (m := fun i => m_are_heads i.1 i.2.1 i.2.2) fun _ => rfl
theorem sc_are_heads : FnScope ["array", "value", "least", "heads", "head", "content", "item"] ["array", "value", "least"] (defScope (top 55)) := ⟨rfl, rfl, rfl, by decide +kernel, rfl, by decide +kernel, by decide +kernel⟩
theorem fo_are_heads {f : Addr} {fd : FuncData} (F : FnP K "are_heads" (top 55) f fd) (b_all : mg "all" = none) (C_is_list__P : Cal P w K mg base 1 "is_list" ["value"] (sp_is_list__P K)) (C_is_tuple_of : Cal P w K mg base 1 "is_tuple_of" ["value", "many"] (sp_is_tuple_of K)) (C_is_between : Cal P w K mg base 2 "is_between" ["value", "least", "most"] (sp_is_between K)) (C_is_rising : Cal P w K mg base 1 "is_rising" ["items"] (sp_is_rising K)) : FnOk P w K mg base CX0 3 f fd ["array", "value", "least"] (sp_are_heads K) := by
  obtain ⟨f_is_list__P, fd_is_list__P, G_is_list__P, g_is_list__P, kp_is_list__P, bi_is_list__P⟩ := C_is_list__P.ex
  obtain ⟨f_is_tuple_of, fd_is_tuple_of, G_is_tuple_of, g_is_tuple_of, kp_is_tuple_of, bi_is_tuple_of⟩ := C_is_tuple_of.ex
  obtain ⟨f_is_between, fd_is_between, G_is_between, g_is_between, kp_is_between, bi_is_between⟩ := C_is_between.ex
  obtain ⟨f_is_rising, fd_is_rising, G_is_rising, g_is_rising, kp_is_rising, bi_is_rising⟩ := C_is_rising.ex
  refine F.ok sc_are_heads (len_are_heads (K := K)) (fun cdv A outer s H vs Q E hr h => ?_)
  have hl : vs.length = 3 := len_are_heads (K := K) vs H Q E h
  match vs, hl, h with
  | [v0, v1, v2], _, h => exact ⟨_, PSs.nox ((pss_cons (ps_if (PW.pt (pw_or (pt_not (pt_val (pe_call G_is_list__P (hr.mono (Nat.le_of_ble_eq_true rfl)) rfl g_is_list__P kp_is_list__P bi_is_list__P .nil pass0 (pa_cons (L2.pv 1) pa_nil)))) (pw_or1 (pt_not (pt_val (pe_callB (cr_all rfl) rfl b_all bt_all (pa_cons (pe_lc (own := [("item", 6)]) rfl sc_are_heads.nd (pi_alt (pi_list (L2.pv 1)) (pi_tup (L2.pv 1))) (blkOk_by (own := [("item", 6)]) (N := ["array", "value", "least", "heads", "head", "content", "item"]) (sc := defScope (top 55)) (by decide +kernel)) (fun _ _ _ _ _ => (pg_name (i := 6) sc_are_heads.nd rfl (Or.inl rfl))) (fun _ _ _ _ _ => pts_nil) (fun _ _ _ _ _ => (pe_call G_is_tuple_of (hr.mono (Nat.le_of_ble_eq_true rfl)) rfl g_is_tuple_of kp_is_tuple_of bi_is_tuple_of .nil pass0 (pa_cons (L2.pv 6) (pa_cons pe_int pa_nil))))) pa_nil))))))) (pss_one (ps_ret pe_bl)) pss_nil) (pss_cons (ps_setLc (i := 3) (own := [("head", 4), ("content", 5)]) rfl sc_are_heads.nd rfl rfl (sw_true rfl rfl rfl (by decide +kernel)) (pi_alt (pi_list (L2.pv 1)) (pi_tup (L2.pv 1))) (blkOk_by (own := [("head", 4), ("content", 5)]) (N := ["array", "value", "least", "heads", "head", "content", "item"]) (sc := defScope (top 55)) (by decide +kernel)) (fun _ _ _ _ _ => (pg_tup (n := 2) rfl (pgs_cons (pg_name (i := 4) sc_are_heads.nd rfl (Or.inl rfl)) (pgs_cons (pg_name (i := 5) sc_are_heads.nd rfl (Or.inl rfl)) pgs_nil)))) (fun _ _ _ _ _ => pts_nil) (fun _ _ _ _ _ => (L2.pv 4))) (pss_cons (ps_if (PW.pt (pw_or (pt_not (pt_val (pe_callB (cr_all rfl) rfl b_all bt_all (pa_cons (pe_lc (own := [("head", 4)]) rfl sc_are_heads.nd (pi_list (L2.pv 3)) (blkOk_by (own := [("head", 4)]) (N := ["array", "value", "least", "heads", "head", "content", "item"]) (sc := defScope (top 55)) (by decide +kernel)) (fun _ _ _ _ _ => (pg_name (i := 4) sc_are_heads.nd rfl (Or.inl rfl))) (fun _ _ _ _ _ => pts_nil) (fun _ _ _ _ _ => (pe_call G_is_between (hr.mono (Nat.le_of_ble_eq_true rfl)) rfl g_is_between kp_is_between bi_is_between .nil pass0 (pa_cons (L2.pv 4) (pa_cons pe_int (pa_cons (pe_op op_sub (pe_fld (L2.pv 0) rfl) pe_int) pa_nil)))))) pa_nil)))) (pw_or1 (pt_not (pt_val (pe_call G_is_rising (hr.mono (Nat.le_of_ble_eq_true rfl)) rfl g_is_rising kp_is_rising bi_is_rising .nil pass0 (pa_cons (L2.pv 3) pa_nil))))))) (pss_one (ps_ret pe_bl)) pss_nil) (pss_one (ps_ret (pe_callB (cr_all rfl) rfl b_all bt_all (pa_cons (pe_lc (own := [("head", 4), ("content", 5)]) rfl sc_are_heads.nd (pi_alt (pi_list (L2.pv 1)) (pi_tup (L2.pv 1))) (blkOk_by (own := [("head", 4), ("content", 5)]) (N := ["array", "value", "least", "heads", "head", "content", "item"]) (sc := defScope (top 55)) (by decide +kernel)) (fun _ _ _ _ _ => (pg_tup (n := 2) rfl (pgs_cons (pg_name (i := 4) sc_are_heads.nd rfl (Or.inl rfl)) (pgs_cons (pg_name (i := 5) sc_are_heads.nd rfl (Or.inl rfl)) pgs_nil)))) (fun _ _ _ _ _ => pts_nil) (fun _ _ _ _ _ => (pe_call G_is_between (hr.mono (Nat.le_of_ble_eq_true rfl)) rfl g_is_between kp_is_between bi_is_between .nil pass0 (pa_cons (L2.pv 5) (pa_cons (L2.pv 2) (pa_cons (pe_op op_sub (pe_fld (L2.pv 0) rfl) pe_int) pa_nil)))))) pa_nil)))))))), prom_ok (n := 3) (S := Unit) (Ret := (rIm K)) (As := fun i : C_Array × (Sq (Int × Int)) × Int => [.im (pv K i.1), .im (pv K i.2.1), .im (pv K i.2.2)]) (m := fun i => m_are_heads i.1 i.2.1 i.2.2) 4 (fun _ => rfl) rfl (fun (array, value, least) => (show RN (rIm K) _ (fun (s : Unit) => [.im (pv K array), .im (pv K value), .im (pv K least), .no, .no, .no, .no]) (m_are_heads array value least) (fun (s : Unit) => [.no, .no, .no, .no, .no, .no, .no]) from (rn_of (rt_ifr (tm_or (tm_not (tm_B (em_of_eo (eo_call0 (i := value) (ps := [pv K value]) (fun _ => (ap_cons (ep_var rfl) ap_nil)) rfl)))) (tm_not (tm_B (em_cb (f := fun (z231 : (List Bool) × Unit) => (z231.1.all id)) (am_cons (em_lc (Γx := fun (a228 : (Int × Int)) (s : Unit) => [.im (pv K array), .im (pv K value), .im (pv K least), .no, .no, .no, .im (pv K a228)]) (js := [6]) (im_sq fun _ => (ep_var rfl)) (fun _ => rfl) (fun a228 s => (gt_name (Γ := [.im (pv K array), .im (pv K value), .im (pv K least), .no, .no, .no, .no]) (i := 6) (Γ' := [.im (pv K array), .im (pv K value), .im (pv K least), .no, .no, .no, .im (pv K a228)]) rfl rfl)) rfl (fun a228 => tm_yes) (fun a228 => (em_of_eo (eo_call0 (i := (a228, ((2 : Int) : Int))) (ps := [pv K a228, pv K ((2 : Int) : Int)]) (fun _ => (ap_cons (ep_var rfl) (ap_cons (ep_int (K := K)) ap_nil))) rfl))) fun a228 s => (.cons (.rfl _) (.cons (.rfl _) (.cons (.rfl _) (.cons (.rfl _) (.cons (.rfl _) (.cons (.rfl _) (.cons (.no _) .nil)))))))) am_nil) fun _ => c_all)))) (rt_ret (em_pure fun _ => (ep_bl (K := K))) fun s => (.cons (.no _) (.cons (.no _) (.cons (.no _) (.cons (.rfl _) (.cons (.rfl _) (.cons (.rfl _) (.cons (.rfl _) .nil)))))))) (rt_seq (rp_asg (Γ := fun (s : Unit) => [.im (pv K array), .im (pv K value), .im (pv K least), .no, .no, .no, .no]) (i := 3) (Γ' := fun heads235 (s : Unit) => [.im (pv K array), .im (pv K value), .im (pv K least), .im (pv K heads235), .no, .no, .no]) (em_lc (Γx := fun (a234 : (Int × Int)) (s : Unit) => [.im (pv K array), .im (pv K value), .im (pv K least), .no, .im (pv K a234.1), .im (pv K a234.2), .no]) (js := [4, 5]) (im_sq fun _ => (ep_var rfl)) (fun _ => rfl) (fun a234 s => (gt_2 (gt_name (Γ := [.im (pv K array), .im (pv K value), .im (pv K least), .no, .no, .no, .no]) (i := 4) (Γ' := [.im (pv K array), .im (pv K value), .im (pv K least), .no, .im (pv K a234.1), .no, .no]) rfl rfl) (gt_name (Γ := [.im (pv K array), .im (pv K value), .im (pv K least), .no, .im (pv K a234.1), .no, .no]) (i := 5) (Γ' := [.im (pv K array), .im (pv K value), .im (pv K least), .no, .im (pv K a234.1), .im (pv K a234.2), .no]) rfl rfl))) rfl (fun a234 => tm_yes) (fun a234 => (em_pure fun _ => (ep_var rfl))) fun a234 s => (.cons (.rfl _) (.cons (.rfl _) (.cons (.rfl _) (.cons (.rfl _) (.cons (.no _) (.cons (.no _) (.cons (.rfl _) .nil)))))))) (fun _ => rfl) fun _ _ => rfl) fun heads235 => (rt_ifr (tm_or (tm_not (tm_B (em_cb (f := fun (z239 : (List Bool) × Unit) => (z239.1.all id)) (am_cons (em_lc (Γx := fun (a236 : Int) (s : Unit) => [.im (pv K array), .im (pv K value), .im (pv K least), .im (pv K heads235), .im (pv K a236), .no, .no]) (js := [4]) (im_list fun _ => (ep_var rfl)) (fun _ => rfl) (fun a236 s => (gt_name (Γ := [.im (pv K array), .im (pv K value), .im (pv K least), .im (pv K heads235), .no, .no, .no]) (i := 4) (Γ' := [.im (pv K array), .im (pv K value), .im (pv K least), .im (pv K heads235), .im (pv K a236), .no, .no]) rfl rfl)) rfl (fun a236 => tm_yes) (fun a236 => (em_of_eo (eo_call0 (i := (a236, ((0 : Int) : Int), ((array.f_heads - (1 : Int)) : Int))) (ps := [pv K a236, pv K ((0 : Int) : Int), pv K ((array.f_heads - (1 : Int)) : Int)]) (fun _ => (ap_cons (ep_var rfl) (ap_cons (ep_int (K := K)) (ap_cons (ep_op (ep_fld (all := n_Array) (ns := n_Array) (i := 9) (ep_var rfl) (fun _ _ h => h) (by decide +kernel) (by decide +kernel) rfl) (ep_int (K := K)) o_sub) ap_nil)))) rfl))) fun a236 s => (.cons (.rfl _) (.cons (.rfl _) (.cons (.rfl _) (.cons (.rfl _) (.cons (.no _) (.cons (.rfl _) (.cons (.rfl _) .nil)))))))) am_nil) fun _ => c_all))) (tm_not (tm_B (em_of_eo (eo_call0 (i := ((Sq.mk false heads235) : (Sq Int))) (ps := [pv K ((Sq.mk false heads235) : (Sq Int))]) (fun _ => (ap_cons (ep_sqL (ep_var rfl)) ap_nil)) rfl))))) (rt_ret (em_pure fun _ => (ep_bl (K := K))) fun s => (.cons (.no _) (.cons (.no _) (.cons (.no _) (.cons (.no _) (.cons (.rfl _) (.cons (.rfl _) (.cons (.rfl _) .nil)))))))) (rt_ret (em_cb (f := fun (z246 : (List Bool) × Unit) => (z246.1.all id)) (am_cons (em_lc (Γx := fun (a243 : (Int × Int)) (s : Unit) => [.im (pv K array), .im (pv K value), .im (pv K least), .im (pv K heads235), .im (pv K a243.1), .im (pv K a243.2), .no]) (js := [4, 5]) (im_sq fun _ => (ep_var rfl)) (fun _ => rfl) (fun a243 s => (gt_2 (gt_name (Γ := [.im (pv K array), .im (pv K value), .im (pv K least), .im (pv K heads235), .no, .no, .no]) (i := 4) (Γ' := [.im (pv K array), .im (pv K value), .im (pv K least), .im (pv K heads235), .im (pv K a243.1), .no, .no]) rfl rfl) (gt_name (Γ := [.im (pv K array), .im (pv K value), .im (pv K least), .im (pv K heads235), .im (pv K a243.1), .no, .no]) (i := 5) (Γ' := [.im (pv K array), .im (pv K value), .im (pv K least), .im (pv K heads235), .im (pv K a243.1), .im (pv K a243.2), .no]) rfl rfl))) rfl (fun a243 => tm_yes) (fun a243 => (em_of_eo (eo_call0 (i := (a243.2, least, ((array.f_contents - (1 : Int)) : Int))) (ps := [pv K a243.2, pv K least, pv K ((array.f_contents - (1 : Int)) : Int)]) (fun _ => (ap_cons (ep_var rfl) (ap_cons (ep_var rfl) (ap_cons (ep_op (ep_fld (all := n_Array) (ns := n_Array) (i := 4) (ep_var rfl) (fun _ _ h => h) (by decide +kernel) (by decide +kernel) rfl) (ep_int (K := K)) o_sub) ap_nil)))) rfl))) fun a243 s => (.cons (.rfl _) (.cons (.rfl _) (.cons (.rfl _) (.cons (.rfl _) (.cons (.no _) (.cons (.no _) (.cons (.rfl _) .nil)))))))) am_nil) fun _ => c_all) fun s => (.cons (.no _) (.cons (.no _) (.cons (.no _) (.cons (.no _) (.cons (.rfl _) (.cons (.rfl _) (.cons (.rfl _) .nil)))))))))))))) h⟩
theorem ok_are_heads {f : Addr} {fd : FuncData} (F : FnP K "are_heads" (top 55) f fd) (hg : mg "are_heads" = some (.ref f)) (b_all : mg "all" = none) (C_is_list__P : Cal P w K mg base 1 "is_list" ["value"] (sp_is_list__P K)) (C_is_tuple_of : Cal P w K mg base 1 "is_tuple_of" ["value", "many"] (sp_is_tuple_of K)) (C_is_between : Cal P w K mg base 2 "is_between" ["value", "least", "most"] (sp_is_between K)) (C_is_rising : Cal P w K mg base 1 "is_rising" ["items"] (sp_is_rising K)) : Cal P w K mg base 3 "are_heads" ["array", "value", "least"] (sp_are_heads K) := ⟨f, fd, fo_are_heads F b_all C_is_list__P C_is_tuple_of C_is_between C_is_rising, hg, F.kp, F.bindsN fun _ _ _ _ _ _ us hl => match us, hl with | [_, _, _], _ => rfl⟩
def m_lot_told_by (array : C_Array) (points : (Sq (Int × Int))) : Mn Unit (List Int) :=
  (mb (mp (decide (array.f_symbols = (0 : Int)))) fun b => mi b
    (mu (m_lot_from array ((0 : Int) : Int)))
    (mb (mp (decide (array.f_symbols = (1 : Int)))) fun b => mi b
    (mb (mb (mp array) fun x_256 => mb (mb (mb (mb (mb (mo (atI points.l (0 : Int))) fun x_249 => mp x_249.2) fun x_250 => mp (x_250 - (1 : Int))) fun x_252 => mc (modOk array.f_lots) (x_252 % array.f_lots)) fun x_254 => mb (mp ()) fun z255 => mp (x_254, z255)) fun z257 => mp (x_256, z257)) fun z258 => (mu (m_lot_from z258.1 z258.2.1)))
    (mb (mb (mp points.l) fun xs => cmP xs (fun (a259 : (Int × Int)) => (mp true)) fun a259 => (mb (mb (mp a259.1) fun x_264 => mb (mb (mb (mo array.f_prime) fun y261 => mc (modOk y261) ((a259.2 - (1 : Int)) % y261)) fun x_262 => mb (mp ()) fun z263 => mp (x_262, z263)) fun z265 => mp (x_264, z265)) fun z266 => mp (z266.1, z266.2.1))) fun symbols267 =>
  (mb (mb (mp array) fun x_282 => mb (mb (mb (mb (mb (mb (mb (mb (mu (m_head_code array)) fun o => mo o) fun x_270 => mb (mb (mp symbols267) fun x_268 => mb (mp ()) fun z269 => mp (x_268, z269)) fun z271 => mp (x_270, z271)) fun z272 => (mu (m_data_of z272.1 z272.2.1))) fun x_275 => mb (mb (mo array.f_prime) fun x_273 => mb (mp ()) fun z274 => mp (x_273, z274)) fun z276 => mp (x_275, z276)) fun z277 => (mu (m_number_from z277.1 z277.2.1))) fun x_278 => mc (modOk array.f_lots) (x_278 % array.f_lots)) fun x_280 => mb (mp ()) fun z281 => mp (x_280, z281)) fun z283 => mp (x_282, z283)) fun z284 => (mu (m_lot_from z284.1 z284.2.1))))))
abbrev sp_lot_told_by (K : PySem.W.Frag) : Sp := Prom (rOw (ol K)) (S := Unit) (fun i : C_Array × (Sq (Int × Int)) => [.im (pv K i.1), .im (pv K i.2)]) fun i => m_lot_told_by i.1 i.2
theorem len_lot_told_by : ∀ vs H Q E, sp_lot_told_by K vs H Q E → vs.length = 2 := prom_len (S := Unit) (Ret := (rOw (ol K))) (As := fun i : C_Array × (Sq (Int × Int)) => [.im (pv K i.1), .im (pv K i.2)]) (m := fun i => m_lot_told_by i.1 i.2) fun _ => rfl
theorem sc_lot_told_by : FnScope ["array", "points", "symbols", "head", "content"] ["array", "points"] (defScope (top 56)) := ⟨rfl, rfl, rfl, by decide +kernel, rfl, by decide +kernel, by decide +kernel⟩
theorem fo_lot_told_by {f : Addr} {fd : FuncData} (F : FnP K "lot_told_by" (top 56) f fd) (C_lot_from : Cal P w K mg base 3 "lot_from" ["array", "number"] (sp_lot_from K)) (C_number_from : Cal P w K mg base 1 "number_from" ["row", "base"] (sp_number_from K)) (C_data_of : Cal P w K mg base 4 "data_of" ["code", "points"] (sp_data_of K)) (C_head_code : Cal P w K mg base 7 "head_code" ["array"] (sp_head_code K)) : FnOk P w K mg base CX0 8 f fd ["array", "points"] (sp_lot_told_by K) := by
  obtain ⟨f_lot_from, fd_lot_from, G_lot_from, g_lot_from, kp_lot_from, bi_lot_from⟩ := C_lot_from.ex
  obtain ⟨f_number_from, fd_number_from, G_number_from, g_number_from, kp_number_from, bi_number_from⟩ := C_number_from.ex
  obtain ⟨f_data_of, fd_data_of, G_data_of, g_data_of, kp_data_of, bi_data_of⟩ := C_data_of.ex
  obtain ⟨f_head_code, fd_head_code, G_head_code, g_head_code, kp_head_code, bi_head_code⟩ := C_head_code.ex
  refine F.ok sc_lot_told_by (len_lot_told_by (K := K)) (fun cdv A outer s H vs Q E hr h => ?_)
  have hl : vs.length = 2 := len_lot_told_by (K := K) vs H Q E h
  match vs, hl, h with
  | [v0, v1], _, h => exact ⟨_, PSs.nox ((pss_cons (ps_if (pt_cmpR op_eq (pe_fld (L2.pv 0) rfl) pe_int (nomark _)) (pss_one (ps_ret (pe_call G_lot_from (hr.mono (Nat.le_of_ble_eq_true rfl)) rfl g_lot_from kp_lot_from bi_lot_from .nil pass0 (pa_cons (L2.pv 0) (pa_cons pe_int pa_nil))))) pss_nil) (pss_cons (ps_if (pt_cmpR op_eq (pe_fld (L2.pv 0) rfl) pe_int (nomark _)) (pss_one (ps_ret (pe_call G_lot_from (hr.mono (Nat.le_of_ble_eq_true rfl)) rfl g_lot_from kp_lot_from bi_lot_from .nil pass0 (pa_cons (L2.pv 0) (pa_cons (pe_op op_mod (pe_op op_sub (pe_ix ix_tup (pe_ix (IxR.or ix_list ix_tup) (L2.pv 1) pe_int (fun _ _ => rfl)) pe_int (fun _ _ => rfl)) pe_int) (pe_fld (L2.pv 0) rfl)) pa_nil))))) pss_nil) (pss_cons (ps_setLc (i := 2) (own := [("head", 3), ("content", 4)]) rfl sc_lot_told_by.nd rfl rfl (sw_true rfl rfl rfl (by decide +kernel)) (pi_alt (pi_list (L2.pv 1)) (pi_tup (L2.pv 1))) (blkOk_by (own := [("head", 3), ("content", 4)]) (N := ["array", "points", "symbols", "head", "content"]) (sc := defScope (top 56)) (by decide +kernel)) (fun _ _ _ _ _ => (pg_tup (n := 2) rfl (pgs_cons (pg_name (i := 3) sc_lot_told_by.nd rfl (Or.inl rfl)) (pgs_cons (pg_name (i := 4) sc_lot_told_by.nd rfl (Or.inl rfl)) pgs_nil)))) (fun _ _ _ _ _ => pts_nil) (fun _ _ _ _ _ => (pe_tup (pa_cons (L2.pv 3) (pa_cons (pe_op op_mod (pe_op op_sub (L2.pv 4) pe_int) (pe_fld (L2.pv 0) rfl)) pa_nil))))) (pss_one (ps_ret (pe_call G_lot_from (hr.mono (Nat.le_of_ble_eq_true rfl)) rfl g_lot_from kp_lot_from bi_lot_from .nil pass0 (pa_cons (L2.pv 0) (pa_cons (pe_op op_mod (pe_call G_number_from (hr.mono (Nat.le_of_ble_eq_true rfl)) rfl g_number_from kp_number_from bi_number_from .nil pass0 (pa_cons (pe_call G_data_of (hr.mono (Nat.le_of_ble_eq_true rfl)) rfl g_data_of kp_data_of bi_data_of .nil pass0 (pa_cons (pe_call G_head_code (hr.mono (Nat.le_of_ble_eq_true rfl)) rfl g_head_code kp_head_code bi_head_code .nil pass0 (pa_cons (L2.pv 0) pa_nil)) (pa_cons (L2.pv 2) pa_nil))) (pa_cons (pe_fld (L2.pv 0) rfl) pa_nil))) (pe_fld (L2.pv 0) rfl)) pa_nil))))))))), prom_ok (n := 2) (S := Unit) (Ret := (rOw (ol K))) (As := fun i : C_Array × (Sq (Int × Int)) => [.im (pv K i.1), .im (pv K i.2)]) (m := fun i => m_lot_told_by i.1 i.2) 3 (fun _ => rfl) rfl (fun (array, points) => (show RN (rOw (ol K)) _ (fun (s : Unit) => [.im (pv K array), .im (pv K points), .no, .no, .no]) (m_lot_told_by array points) (fun (s : Unit) => [.no, .no, .no, .no, .no]) from (rn_of (rt_ifr (tm_pure fun _ => (tp_test (ep_op (ep_fld (all := n_Array) (ns := n_Array) (i := 7) (ep_var rfl) (fun _ _ h => h) (by decide +kernel) (by decide +kernel) rfl) (ep_int (K := K)) o_eq))) (rt_reto (eo_call0 (i := (array, ((0 : Int) : Int))) (ps := [pv K array, pv K ((0 : Int) : Int)]) (fun _ => (ap_cons (ep_var rfl) (ap_cons (ep_int (K := K)) ap_nil))) rfl) fun s => (.cons (.no _) (.cons (.no _) (.cons (.rfl _) (.cons (.rfl _) (.cons (.rfl _) .nil)))))) (rt_ifr (tm_pure fun _ => (tp_test (ep_op (ep_fld (all := n_Array) (ns := n_Array) (i := 7) (ep_var rfl) (fun _ _ h => h) (by decide +kernel) (by decide +kernel) rfl) (ep_int (K := K)) o_eq))) (rt_reto (eo_call0M (f := fun (z258 : C_Array × Int × Unit) => (z258.1, z258.2.1)) (am_cons (em_pure fun _ => (ep_var rfl)) (am_cons (em_oprC (g := fun (u : Int) (v : Int) => (u % v)) (c := fun (u : Int) (v : Int) => modOk v) (em_opr (g := fun (u : Int) (v : Int) => (u - v)) (em_opr (g := fun (u : (Int × Int)) (_ : Int) => u.2) (em_ixSqp (fun _ => (ep_var rfl)) fun _ => (ep_int (K := K))) (fun _ => (ep_int (K := K))) fun _ => pr2_1) (fun _ => (ep_int (K := K))) fun _ => o_sub) (fun _ => (ep_fld (all := n_Array) (ns := n_Array) (i := 6) (ep_var rfl) (fun _ _ h => h) (by decide +kernel) (by decide +kernel) rfl)) fun _ h => (o_mod h)) am_nil)) fun _ => rfl) fun s => (.cons (.no _) (.cons (.no _) (.cons (.rfl _) (.cons (.rfl _) (.cons (.rfl _) .nil)))))) (rt_seq (rp_asg (Γ := fun (s : Unit) => [.im (pv K array), .im (pv K points), .no, .no, .no]) (i := 2) (Γ' := fun symbols267 (s : Unit) => [.im (pv K array), .im (pv K points), .im (pv K symbols267), .no, .no]) (em_lc (Γx := fun (a259 : (Int × Int)) (s : Unit) => [.im (pv K array), .im (pv K points), .no, .im (pv K a259.1), .im (pv K a259.2)]) (js := [3, 4]) (im_sq fun _ => (ep_var rfl)) (fun _ => rfl) (fun a259 s => (gt_2 (gt_name (Γ := [.im (pv K array), .im (pv K points), .no, .no, .no]) (i := 3) (Γ' := [.im (pv K array), .im (pv K points), .no, .im (pv K a259.1), .no]) rfl rfl) (gt_name (Γ := [.im (pv K array), .im (pv K points), .no, .im (pv K a259.1), .no]) (i := 4) (Γ' := [.im (pv K array), .im (pv K points), .no, .im (pv K a259.1), .im (pv K a259.2)]) rfl rfl))) rfl (fun a259 => tm_yes) (fun a259 => (em_tup (f := fun (z266 : Int × Int × Unit) => (z266.1, z266.2.1)) (am_cons (em_pure fun _ => (ep_var rfl)) (am_cons (em_oplC (g := fun (u : Int) (v : Int) => (u % v)) (c := fun (u : Int) (v : Int) => modOk v) (fun _ => (ep_op (ep_var rfl) (ep_int (K := K)) o_sub)) (em_unopt fun _ => (ep_fld (all := n_Array) (ns := n_Array) (i := 8) (ep_var rfl) (fun _ _ h => h) (by decide +kernel) (by decide +kernel) rfl)) fun _ h => (o_mod h)) am_nil)) fun z266 => tup2)) fun a259 s => (.cons (.rfl _) (.cons (.rfl _) (.cons (.rfl _) (.cons (.no _) (.cons (.no _) .nil)))))) (fun _ => rfl) fun _ _ => rfl) fun symbols267 => (rt_reto (eo_call0M (f := fun (z284 : C_Array × Int × Unit) => (z284.1, z284.2.1)) (am_cons (em_pure fun _ => (ep_var rfl)) (am_cons (em_oprC (g := fun (u : Int) (v : Int) => (u % v)) (c := fun (u : Int) (v : Int) => modOk v) (em_of_eo (eo_call0M (f := fun (z277 : (Tu Int) × Int × Unit) => (z277.1, z277.2.1)) (am_cons (em_of_eo (eo_call0M (f := fun (z272 : C_Code × (List (Int × Int)) × Unit) => (z272.1, z272.2.1)) (am_cons (em_unoptM (em_of_eo (eo_call0 (i := array) (ps := [pv K array]) (fun _ => (ap_cons (ep_var rfl) ap_nil)) rfl))) (am_cons (em_pure fun _ => (ep_var rfl)) am_nil)) fun _ => rfl)) (am_cons (em_unopt fun _ => (ep_fld (all := n_Array) (ns := n_Array) (i := 8) (ep_var rfl) (fun _ _ h => h) (by decide +kernel) (by decide +kernel) rfl)) am_nil)) fun _ => rfl)) (fun _ => (ep_fld (all := n_Array) (ns := n_Array) (i := 6) (ep_var rfl) (fun _ _ h => h) (by decide +kernel) (by decide +kernel) rfl)) fun _ h => (o_mod h)) am_nil)) fun _ => rfl) fun s => (.cons (.no _) (.cons (.no _) (.cons (.no _) (.cons (.rfl _) (.cons (.rfl _) .nil)))))))))))) h⟩
theorem ok_lot_told_by {f : Addr} {fd : FuncData} (F : FnP K "lot_told_by" (top 56) f fd) (hg : mg "lot_told_by" = some (.ref f)) (C_lot_from : Cal P w K mg base 3 "lot_from" ["array", "number"] (sp_lot_from K)) (C_number_from : Cal P w K mg base 1 "number_from" ["row", "base"] (sp_number_from K)) (C_data_of : Cal P w K mg base 4 "data_of" ["code", "points"] (sp_data_of K)) (C_head_code : Cal P w K mg base 7 "head_code" ["array"] (sp_head_code K)) : Cal P w K mg base 8 "lot_told_by" ["array", "points"] (sp_lot_told_by K) := ⟨f, fd, fo_lot_told_by F C_lot_from C_number_from C_data_of C_head_code, hg, F.kp, F.bindsN fun _ _ _ _ _ _ us hl => match us, hl with | [_, _], _ => rfl⟩
def m_is_view (array : C_Array) (value : (Sq (Int × Int))) : Mn Unit Bool :=
  (mu (m_are_heads array value ((0 : Int) : Int)))
abbrev sp_is_view (K : PySem.W.Frag) : Sp := Prom (rIm K) (S := Unit) (fun i : C_Array × (Sq (Int × Int)) => [.im (pv K i.1), .im (pv K i.2)]) fun i => m_is_view i.1 i.2
theorem len_is_view : ∀ vs H Q E, sp_is_view K vs H Q E → vs.length = 2 := prom_len (S := Unit) (Ret := (rIm K)) (As := fun i : C_Array × (Sq (Int × Int)) => [.im (pv K i.1), .im (pv K i.2)]) (m := fun i => m_is_view i.1 i.2) fun _ => rfl
theorem sc_is_view : FnScope ["array", "value"] ["array", "value"] (defScope (top 58)) := ⟨rfl, rfl, rfl, by decide +kernel, rfl, by decide +kernel, by decide +kernel⟩
theorem fo_is_view {f : Addr} {fd : FuncData} (F : FnP K "is_view" (top 58) f fd) (C_are_heads : Cal P w K mg base 3 "are_heads" ["array", "value", "least"] (sp_are_heads K)) : FnOk P w K mg base CX0 4 f fd ["array", "value"] (sp_is_view K) := by
  obtain ⟨f_are_heads, fd_are_heads, G_are_heads, g_are_heads, kp_are_heads, bi_are_heads⟩ := C_are_heads.ex
  refine F.ok sc_is_view (len_is_view (K := K)) (fun cdv A outer s H vs Q E hr h => ?_)
  have hl : vs.length = 2 := len_is_view (K := K) vs H Q E h
  match vs, hl, h with
  | [v0, v1], _, h => exact ⟨_, PSs.nox ((pss_one (ps_ret (pe_call G_are_heads (hr.mono (Nat.le_of_ble_eq_true rfl)) rfl g_are_heads kp_are_heads bi_are_heads .nil pass0 (pa_cons (L2.pv 0) (pa_cons (L2.pv 1) (pa_cons pe_int pa_nil))))))), prom_ok (n := 2) (S := Unit) (Ret := (rIm K)) (As := fun i : C_Array × (Sq (Int × Int)) => [.im (pv K i.1), .im (pv K i.2)]) (m := fun i => m_is_view i.1 i.2) 0 (fun _ => rfl) rfl (fun (array, value) => (show RN (rIm K) _ (fun (s : Unit) => [.im (pv K array), .im (pv K value)]) (m_is_view array value) (fun (s : Unit) => [.no, .no]) from (rn_of (rt_ret (em_of_eo (eo_call0 (i := (array, value, ((0 : Int) : Int))) (ps := [pv K array, pv K value, pv K ((0 : Int) : Int)]) (fun _ => (ap_cons (ep_var rfl) (ap_cons (ep_var rfl) (ap_cons (ep_int (K := K)) ap_nil)))) rfl)) fun s => (.cons (.no _) (.cons (.no _) .nil)))))) h⟩
theorem ok_is_view {f : Addr} {fd : FuncData} (F : FnP K "is_view" (top 58) f fd) (hg : mg "is_view" = some (.ref f)) (C_are_heads : Cal P w K mg base 3 "are_heads" ["array", "value", "least"] (sp_are_heads K)) : Cal P w K mg base 4 "is_view" ["array", "value"] (sp_is_view K) := ⟨f, fd, fo_is_view F C_are_heads, hg, F.kp, F.bindsN fun _ _ _ _ _ _ us hl => match us, hl with | [_, _], _ => rfl⟩
def m_check_view (array : C_Array) (view : (Sq (Int × Int))) : Mn Unit Unit :=
  (mb (mb (mu (m_is_view array view)) fun b285 => mp (!b285)) fun b => mi b
    mbad
    (mp ()))
abbrev sp_check_view (K : PySem.W.Frag) : Sp := Prom (rIm K) (S := Unit) (fun i : C_Array × (Sq (Int × Int)) => [.im (pv K i.1), .im (pv K i.2)]) fun i => m_check_view i.1 i.2
theorem len_check_view : ∀ vs H Q E, sp_check_view K vs H Q E → vs.length = 2 := prom_len (S := Unit) (Ret := (rIm K)) (As := fun i : C_Array × (Sq (Int × Int)) => [.im (pv K i.1), .im (pv K i.2)]) (m := fun i => m_check_view i.1 i.2) fun _ => rfl
theorem sc_check_view : FnScope ["array", "view"] ["array", "view"] (defScope (top 59)) := ⟨rfl, rfl, rfl, by decide +kernel, rfl, by decide +kernel, by decide +kernel⟩
theorem fo_check_view {f : Addr} {fd : FuncData} (F : FnP K "check_view" (top 59) f fd) (C_is_view : Cal P w K mg base 4 "is_view" ["array", "value"] (sp_is_view K)) : FnOk P w K mg base CX0 5 f fd ["array", "view"] (sp_check_view K) := by
  obtain ⟨f_is_view, fd_is_view, G_is_view, g_is_view, kp_is_view, bi_is_view⟩ := C_is_view.ex
  refine F.ok sc_check_view (len_check_view (K := K)) (fun cdv A outer s H vs Q E hr h => ?_)
  have hl : vs.length = 2 := len_check_view (K := K) vs H Q E h
  match vs, hl, h with
  | [v0, v1], _, h => exact ⟨_, PSs.nox ((pss_one (ps_if (pt_not (pt_val (pe_call G_is_view (hr.mono (Nat.le_of_ble_eq_true rfl)) rfl g_is_view kp_is_view bi_is_view .nil pass0 (pa_cons (L2.pv 0) (pa_cons (L2.pv 1) pa_nil))))) (pss_one ps_never) pss_nil))), prom_ok (n := 2) (S := Unit) (Ret := (rIm K)) (As := fun i : C_Array × (Sq (Int × Int)) => [.im (pv K i.1), .im (pv K i.2)]) (m := fun i => m_check_view i.1 i.2) 0 (fun _ => rfl) rfl (fun (array, view) => (show RN (rIm K) _ (fun (s : Unit) => [.im (pv K array), .im (pv K view)]) (m_check_view array view) (fun (s : Unit) => [.no, .no]) from ((rn_if (tm_not (tm_B (em_of_eo (eo_call0 (i := (array, view)) (ps := [pv K array, pv K view]) (fun _ => (ap_cons (ep_var rfl) (ap_cons (ep_var rfl) ap_nil))) rfl)))) (rn_of rt_never) (rn_next fun s => (.cons (.no _) (.cons (.no _) .nil))))))) h⟩
theorem ok_check_view {f : Addr} {fd : FuncData} (F : FnP K "check_view" (top 59) f fd) (hg : mg "check_view" = some (.ref f)) (C_is_view : Cal P w K mg base 4 "is_view" ["array", "value"] (sp_is_view K)) : Cal P w K mg base 5 "check_view" ["array", "view"] (sp_check_view K) := ⟨f, fd, fo_check_view F C_is_view, hg, F.kp, F.bindsN fun _ _ _ _ _ _ us hl => match us, hl with | [_, _], _ => rfl⟩
def m_check_long_view (array : C_Array) (view : (Sq (Int × Int))) : Mn Unit Unit :=
  (mb (mu (m_check_view array view)) fun u_286 =>
  (mb (mp (decide (((view.l.length : Nat) : Int) ≤ array.f_symbols))) fun b => mi b
    mbad
    (mp ())))
abbrev sp_check_long_view (K : PySem.W.Frag) : Sp := Prom (rIm K) (S := Unit) (fun i : C_Array × (Sq (Int × Int)) => [.im (pv K i.1), .im (pv K i.2)]) fun i => m_check_long_view i.1 i.2
theorem len_check_long_view : ∀ vs H Q E, sp_check_long_view K vs H Q E → vs.length = 2 := prom_len (S := Unit) (Ret := (rIm K)) (As := fun i : C_Array × (Sq (Int × Int)) => [.im (pv K i.1), .im (pv K i.2)]) (m := fun i => m_check_long_view i.1 i.2) fun _ => rfl
theorem sc_check_long_view : FnScope ["array", "view"] ["array", "view"] (defScope (top 60)) := ⟨rfl, rfl, rfl, by decide +kernel, rfl, by decide +kernel, by decide +kernel⟩
theorem fo_check_long_view {f : Addr} {fd : FuncData} (F : FnP K "check_long_view" (top 60) f fd) (b_len : mg "len" = none) (C_check_view : Cal P w K mg base 5 "check_view" ["array", "view"] (sp_check_view K)) : FnOk P w K mg base CX0 6 f fd ["array", "view"] (sp_check_long_view K) := by
  obtain ⟨f_check_view, fd_check_view, G_check_view, g_check_view, kp_check_view, bi_check_view⟩ := C_check_view.ex
  refine F.ok sc_check_long_view (len_check_long_view (K := K)) (fun cdv A outer s H vs Q E hr h => ?_)
  have hl : vs.length = 2 := len_check_long_view (K := K) vs H Q E h
  match vs, hl, h with
  | [v0, v1], _, h => exact ⟨_, PSs.nox ((pss_cons (ps_expr (pe_call G_check_view (hr.mono (Nat.le_of_ble_eq_true rfl)) rfl g_check_view kp_check_view bi_check_view .nil pass0 (pa_cons (L2.pv 0) (pa_cons (L2.pv 1) pa_nil)))) (pss_one (ps_if (pt_cmpR op_le (pe_callB call_len_seq rfl b_len bt_len (pa_cons (L2.pv 1) pa_nil)) (pe_fld (L2.pv 0) rfl) (nomark _)) (pss_one ps_never) pss_nil)))), prom_ok (n := 2) (S := Unit) (Ret := (rIm K)) (As := fun i : C_Array × (Sq (Int × Int)) => [.im (pv K i.1), .im (pv K i.2)]) (m := fun i => m_check_long_view i.1 i.2) 0 (fun _ => rfl) rfl (fun (array, view) => (show RN (rIm K) _ (fun (s : Unit) => [.im (pv K array), .im (pv K view)]) (m_check_long_view array view) (fun (s : Unit) => [.no, .no]) from ((rn_seq (rp_drop (em_of_eo (eo_call0 (i := (array, view)) (ps := [pv K array, pv K view]) (fun _ => (ap_cons (ep_var rfl) (ap_cons (ep_var rfl) ap_nil))) rfl))) fun u_286 => (rn_if (tm_pure fun _ => (tp_test (ep_op (ep_cb (ap_cons (ep_var rfl) ap_nil) c_lenSq) (ep_fld (all := n_Array) (ns := n_Array) (i := 7) (ep_var rfl) (fun _ _ h => h) (by decide +kernel) (by decide +kernel) rfl) o_le))) (rn_of rt_never) (rn_next fun s => (.cons (.no _) (.cons (.no _) .nil)))))))) h⟩
theorem ok_check_long_view {f : Addr} {fd : FuncData} (F : FnP K "check_long_view" (top 60) f fd) (hg : mg "check_long_view" = some (.ref f)) (b_len : mg "len" = none) (C_check_view : Cal P w K mg base 5 "check_view" ["array", "view"] (sp_check_view K)) : Cal P w K mg base 6 "check_long_view" ["array", "view"] (sp_check_long_view K) := ⟨f, fd, fo_check_long_view F b_len C_check_view, hg, F.kp, F.bindsN fun _ _ _ _ _ _ us hl => match us, hl with | [_, _], _ => rfl⟩
def m_told_by (array : C_Array) (view : (Sq (Int × Int))) : Mn Unit (Option (List Int)) :=
  (mb (mp ((Sq.mk view.t (cutL view.l none (some (array.f_symbols + (1 : Int))))) : (Sq (Int × Int)))) fun first287 =>
  (mb (mb (mb (mb (mp first287.l) fun xs => cmP xs (fun (a288 : (Int × Int)) => (mp true)) fun a288 => (mp (decide (a288.2 = (0 : Int)) : Bool))) fun x_289 => mb (mp ()) fun z290 => mp (x_289, z290)) fun z291 => mp (z291.1.any id)) fun b => mi b
    (mp none)
    (mb (mu (m_lot_told_by array first287)) fun x => mp (some x))))
abbrev sp_told_by (K : PySem.W.Frag) : Sp := Prom (rOwO (ol K)) (S := Unit) (fun i : C_Array × (Sq (Int × Int)) => [.im (pv K i.1), .im (pv K i.2)]) fun i => m_told_by i.1 i.2
theorem len_told_by : ∀ vs H Q E, sp_told_by K vs H Q E → vs.length = 2 := prom_len (S := Unit) (Ret := (rOwO (ol K))) (As := fun i : C_Array × (Sq (Int × Int)) => [.im (pv K i.1), .im (pv K i.2)]) (m := fun i => m_told_by i.1 i.2) fun _ => rfl
theorem sc_told_by : FnScope ["array", "view", "first", "head", "content"] ["array", "view"] (defScope (top 61)) := ⟨rfl, rfl, rfl, by decide +kernel, rfl, by decide +kernel, by decide +kernel⟩
theorem fo_told_by {f : Addr} {fd : FuncData} (F : FnP K "told_by" (top 61) f fd) (b_any : mg "any" = none) (C_lot_told_by : Cal P w K mg base 8 "lot_told_by" ["array", "points"] (sp_lot_told_by K)) : FnOk P w K mg base CX0 9 f fd ["array", "view"] (sp_told_by K) := by
  obtain ⟨f_lot_told_by, fd_lot_told_by, G_lot_told_by, g_lot_told_by, kp_lot_told_by, bi_lot_told_by⟩ := C_lot_told_by.ex
  refine F.ok sc_told_by (len_told_by (K := K)) (fun cdv A outer s H vs Q E hr h => ?_)
  have hl : vs.length = 2 := len_told_by (K := K) vs H Q E h
  match vs, hl, h with
  | [v0, v1], _, h => exact ⟨_, PSs.nox ((pss_cons (ps_set (i := 2) sc_told_by.nd rfl (Or.inl rfl) (pe_slice sl_sq (L2.pv 1) po_none (po_some (pe_op op_add (pe_fld (L2.pv 0) rfl) pe_int)))) (pss_cons (ps_if (pt_val (pe_callB (cr_any rfl) rfl b_any bt_any (pa_cons (pe_lc (own := [("head", 3), ("content", 4)]) rfl sc_told_by.nd (pi_alt (pi_list (L2.pv 2)) (pi_tup (L2.pv 2))) (blkOk_by (own := [("head", 3), ("content", 4)]) (N := ["array", "view", "first", "head", "content"]) (sc := defScope (top 61)) (by decide +kernel)) (fun _ _ _ _ _ => (pg_tup (n := 2) rfl (pgs_cons (pg_name (i := 3) sc_told_by.nd rfl (Or.inl rfl)) (pgs_cons (pg_name (i := 4) sc_told_by.nd rfl (Or.inl rfl)) pgs_nil)))) (fun _ _ _ _ _ => pts_nil) (fun _ _ _ _ _ => (pe_cmpR op_eq (L2.pv 4) pe_int (nomark _)))) pa_nil))) (pss_one (ps_ret pe_non)) pss_nil) (pss_one (ps_ret (pe_call G_lot_told_by (hr.mono (Nat.le_of_ble_eq_true rfl)) rfl g_lot_told_by kp_lot_told_by bi_lot_told_by .nil pass0 (pa_cons (L2.pv 0) (pa_cons (L2.pv 2) pa_nil)))))))), prom_ok (n := 2) (S := Unit) (Ret := (rOwO (ol K))) (As := fun i : C_Array × (Sq (Int × Int)) => [.im (pv K i.1), .im (pv K i.2)]) (m := fun i => m_told_by i.1 i.2) 3 (fun _ => rfl) rfl (fun (array, view) => (show RN (rOwO (ol K)) _ (fun (s : Unit) => [.im (pv K array), .im (pv K view), .no, .no, .no]) (m_told_by array view) (fun (s : Unit) => [.no, .no, .no, .no, .no]) from (rn_of (rt_seq (rp_asg (Γ := fun (s : Unit) => [.im (pv K array), .im (pv K view), .no, .no, .no]) (i := 2) (Γ' := fun first287 (s : Unit) => [.im (pv K array), .im (pv K view), .im (pv K first287), .no, .no]) (em_pure fun _ => (ep_slSq (ep_var rfl) po_no (po_i (ep_op (ep_fld (all := n_Array) (ns := n_Array) (i := 7) (ep_var rfl) (fun _ _ h => h) (by decide +kernel) (by decide +kernel) rfl) (ep_int (K := K)) o_add)))) (fun _ => rfl) fun _ _ => rfl) fun first287 => (rt_ifr (tm_B (em_cb (f := fun (z291 : (List Bool) × Unit) => (z291.1.any id)) (am_cons (em_lc (Γx := fun (a288 : (Int × Int)) (s : Unit) => [.im (pv K array), .im (pv K view), .im (pv K first287), .im (pv K a288.1), .im (pv K a288.2)]) (js := [3, 4]) (im_sq fun _ => (ep_var rfl)) (fun _ => rfl) (fun a288 s => (gt_2 (gt_name (Γ := [.im (pv K array), .im (pv K view), .im (pv K first287), .no, .no]) (i := 3) (Γ' := [.im (pv K array), .im (pv K view), .im (pv K first287), .im (pv K a288.1), .no]) rfl rfl) (gt_name (Γ := [.im (pv K array), .im (pv K view), .im (pv K first287), .im (pv K a288.1), .no]) (i := 4) (Γ' := [.im (pv K array), .im (pv K view), .im (pv K first287), .im (pv K a288.1), .im (pv K a288.2)]) rfl rfl))) rfl (fun a288 => tm_yes) (fun a288 => (em_pure fun _ => (ep_op (ep_var rfl) (ep_int (K := K)) o_eq))) fun a288 s => (.cons (.rfl _) (.cons (.rfl _) (.cons (.rfl _) (.cons (.no _) (.cons (.no _) .nil)))))) am_nil) fun _ => c_any)) (rt_retO (eo_none fun _ => (ep_non (K := K))) fun s => (.cons (.no _) (.cons (.no _) (.cons (.no _) (.cons (.rfl _) (.cons (.rfl _) .nil)))))) (rt_retO (eo_some (eo_call0 (i := (array, first287)) (ps := [pv K array, pv K first287]) (fun _ => (ap_cons (ep_var rfl) (ap_cons (ep_var rfl) ap_nil))) rfl)) fun s => (.cons (.no _) (.cons (.no _) (.cons (.no _) (.cons (.rfl _) (.cons (.rfl _) .nil))))))))))) h⟩
theorem ok_told_by {f : Addr} {fd : FuncData} (F : FnP K "told_by" (top 61) f fd) (hg : mg "told_by" = some (.ref f)) (b_any : mg "any" = none) (C_lot_told_by : Cal P w K mg base 8 "lot_told_by" ["array", "points"] (sp_lot_told_by K)) : Cal P w K mg base 9 "told_by" ["array", "view"] (sp_told_by K) := ⟨f, fd, fo_told_by F b_any C_lot_told_by, hg, F.kp, F.bindsN fun _ _ _ _ _ _ us hl => match us, hl with | [_, _], _ => rfl⟩
def m_told (array : C_Array) (view : (Sq (Int × Int))) : Mn Unit (Option (List Int)) :=
  (mb (mu (m_check_long_view array view)) fun u_292 =>
  (mu (m_told_by array view)))
abbrev sp_told (K : PySem.W.Frag) : Sp := Prom (rOwO (ol K)) (S := Unit) (fun i : C_Array × (Sq (Int × Int)) => [.im (pv K i.1), .im (pv K i.2)]) fun i => m_told i.1 i.2
theorem len_told : ∀ vs H Q E, sp_told K vs H Q E → vs.length = 2 := prom_len (S := Unit) (Ret := (rOwO (ol K))) (As := fun i : C_Array × (Sq (Int × Int)) => [.im (pv K i.1), .im (pv K i.2)]) (m := fun i => m_told i.1 i.2) fun _ => rfl
theorem sc_told : FnScope ["array", "view"] ["array", "view"] (defScope (top 62)) := ⟨rfl, rfl, rfl, by decide +kernel, rfl, by decide +kernel, by decide +kernel⟩
theorem fo_told {f : Addr} {fd : FuncData} (F : FnP K "told" (top 62) f fd) (C_check_long_view : Cal P w K mg base 6 "check_long_view" ["array", "view"] (sp_check_long_view K)) (C_told_by : Cal P w K mg base 9 "told_by" ["array", "view"] (sp_told_by K)) : FnOk P w K mg base CX0 10 f fd ["array", "view"] (sp_told K) := by
  obtain ⟨f_check_long_view, fd_check_long_view, G_check_long_view, g_check_long_view, kp_check_long_view, bi_check_long_view⟩ := C_check_long_view.ex
  obtain ⟨f_told_by, fd_told_by, G_told_by, g_told_by, kp_told_by, bi_told_by⟩ := C_told_by.ex
  refine F.ok sc_told (len_told (K := K)) (fun cdv A outer s H vs Q E hr h => ?_)
  have hl : vs.length = 2 := len_told (K := K) vs H Q E h
  match vs, hl, h with
  | [v0, v1], _, h => exact ⟨_, PSs.nox ((pss_cons (ps_expr (pe_call G_check_long_view (hr.mono (Nat.le_of_ble_eq_true rfl)) rfl g_check_long_view kp_check_long_view bi_check_long_view .nil pass0 (pa_cons (L2.pv 0) (pa_cons (L2.pv 1) pa_nil)))) (pss_one (ps_ret (pe_call G_told_by (hr.mono (Nat.le_of_ble_eq_true rfl)) rfl g_told_by kp_told_by bi_told_by .nil pass0 (pa_cons (L2.pv 0) (pa_cons (L2.pv 1) pa_nil))))))), prom_ok (n := 2) (S := Unit) (Ret := (rOwO (ol K))) (As := fun i : C_Array × (Sq (Int × Int)) => [.im (pv K i.1), .im (pv K i.2)]) (m := fun i => m_told i.1 i.2) 0 (fun _ => rfl) rfl (fun (array, view) => (show RN (rOwO (ol K)) _ (fun (s : Unit) => [.im (pv K array), .im (pv K view)]) (m_told array view) (fun (s : Unit) => [.no, .no]) from (rn_of (rt_seq (rp_drop (em_of_eo (eo_call0 (i := (array, view)) (ps := [pv K array, pv K view]) (fun _ => (ap_cons (ep_var rfl) (ap_cons (ep_var rfl) ap_nil))) rfl))) fun u_292 => (rt_retO (eo_call0 (i := (array, view)) (ps := [pv K array, pv K view]) (fun _ => (ap_cons (ep_var rfl) (ap_cons (ep_var rfl) ap_nil))) rfl) fun s => (.cons (.no _) (.cons (.no _) .nil))))))) h⟩
theorem ok_told {f : Addr} {fd : FuncData} (F : FnP K "told" (top 62) f fd) (hg : mg "told" = some (.ref f)) (C_check_long_view : Cal P w K mg base 6 "check_long_view" ["array", "view"] (sp_check_long_view K)) (C_told_by : Cal P w K mg base 9 "told_by" ["array", "view"] (sp_told_by K)) : Cal P w K mg base 10 "told" ["array", "view"] (sp_told K) := ⟨f, fd, fo_told F C_check_long_view C_told_by, hg, F.kp, F.bindsN fun _ _ _ _ _ _ us hl => match us, hl with | [_, _], _ => rfl⟩
def gl_told__array_view : List Value → List Value → List Value
  | [], [a0, a1] => [a0, a1]
  | _, _ => []
def gv_told__array_view : List V → List V → List V
  | [], [a0, a1] => [a0, a1]
  | _, _ => []
theorem kb_told__array_view {f : Addr} {fd : FuncData} (F : FnP K "told" (top 62) f fd) : KBinds K fd ["array", "view"] ["array", "view"] gl_told__array_view gv_told__array_view := by
  obtain ⟨oc, od, dV, kV, doc, pm, an, cdv, ct, osl, rfl, lk, hcd, hD, hK⟩ := F.ex
  rcases hD with ⟨_, rfl⟩ | ⟨e, _⟩
  · refine ⟨fun s us ws X hl => ?_, fun {vs us zs ws} r1 r2 => ?_⟩
    · match us, ws, hl with
      | [], [a0, a1], _ => exact .of_eq rfl
    · match vs, us, zs, ws, r1, r2 with
      | [], [], [_, _], [_, _], .nil, (.cons r0 (.cons r1 .nil)) => exact (.cons r0 (.cons r1 .nil))
      | _ :: _, _ :: _, _, _, .cons _ _, _ => exact .nil
      | [], [], [], [], .nil, .nil => exact .nil
      | [], [], [_], [_], .nil, (.cons _ .nil) => exact .nil
      | [], [], _ :: _ :: _ :: _, _ :: _ :: _ :: _, .nil, (.cons _ (.cons _ (.cons _ _))) => exact .nil
  · exact absurd rfl e
theorem okK_told__array_view {f : Addr} {fd : FuncData} (F : FnP K "told" (top 62) f fd) (hg : mg "told" = some (.ref f)) (C_check_long_view : Cal P w K mg base 6 "check_long_view" ["array", "view"] (sp_check_long_view K)) (C_told_by : Cal P w K mg base 9 "told_by" ["array", "view"] (sp_told_by K)) : CalK P w K mg base 10 "told" ["array", "view"] (sp_told K) ["array", "view"] gl_told__array_view gv_told__array_view := ⟨f, fd, fo_told F C_check_long_view C_told_by, hg, F.kp, kb_told__array_view F⟩
def m_can_be_left (array : C_Array) (view : (Sq (Int × Int))) (lot : (Sq Int)) : Mn Unit Bool :=
  (mb (mu (m_check_view array view)) fun u_293 =>
  (mb (mu (m_check_lot array lot)) fun u_294 =>
  (mb (mu (m_word_of_lot array lot)) fun right295 =>
  (mb (mb (mc (b62 (((view.l.length : Nat) : Int) : Int)) (rng 0 (((view.l.length : Nat) : Int) : Int).toNat)) fun xs => cmP xs (fun (a296 : Int) => (mb (mb (mo (atI view.l a296)) fun x_299 => mp x_299.2) fun x_305 => mb (mb (mb (mo (atI view.l a296)) fun x_302 => mp x_302.1) fun i304 => mo (atI right295.l i304)) fun y306 => mp (!decide (x_305 = y306)))) fun a296 => (mp a296)) fun wrong307 =>
  (mb (mp wrong307.isEmpty) fun b321 => mi b321 (mp true) (mb (mb (mb (mb (mb (mb (mb (mo (atI wrong307 (0 : Int))) fun x_314 => mp (x_314 + (1 : Int))) fun i316 => mp (some i316)) fun lo => mb (mp none) fun hi => mp (Sq.mk view.t (cutL view.l lo hi))) fun x => mp x.l) fun xs => cmP xs (fun (a317 : (Int × Int)) => (mp true)) fun a317 => (mp (decide (a317.2 = (0 : Int)) : Bool))) fun x_318 => mb (mp ()) fun z319 => mp (x_318, z319)) fun z320 => mp (z320.1.all id)))))))
abbrev sp_can_be_left (K : PySem.W.Frag) : Sp := Prom (rIm K) (S := Unit) (fun i : C_Array × (Sq (Int × Int)) × (Sq Int) => [.im (pv K i.1), .im (pv K i.2.1), .im (pv K i.2.2)]) fun i => m_can_be_left i.1 i.2.1 i.2.2
theorem len_can_be_left : ∀ vs H Q E, sp_can_be_left K vs H Q E → vs.length = 3 := prom_len (S := Unit) (Ret := (rIm K)) (As := fun i : C_Array × (Sq (Int × Int)) × (Sq Int) => [.im (pv K i.1), .im (pv K i.2.1), .im (pv K i.2.2)]) (m := fun i => m_can_be_left i.1 i.2.1 i.2.2) fun _ => rfl
theorem sc_can_be_left : FnScope ["array", "view", "lot", "right", "wrong", "at", "head", "content"] ["array", "view", "lot"] (defScope (top 63)) := ⟨rfl, rfl, rfl, by decide +kernel, rfl, by decide +kernel, by decide +kernel⟩
theorem fo_can_be_left {f : Addr} {fd : FuncData} (F : FnP K "can_be_left" (top 63) f fd) (b_all : mg "all" = none) (b_len : mg "len" = none) (b_range : mg "range" = none) (C_check_view : Cal P w K mg base 5 "check_view" ["array", "view"] (sp_check_view K)) (C_check_lot : Cal P w K mg base 5 "check_lot" ["array", "lot"] (sp_check_lot K)) (C_word_of_lot : Cal P w K mg base 8 "word_of_lot" ["array", "lot"] (sp_word_of_lot K)) : FnOk P w K mg base CX0 9 f fd ["array", "view", "lot"] (sp_can_be_left K) := by
  obtain ⟨f_check_view, fd_check_view, G_check_view, g_check_view, kp_check_view, bi_check_view⟩ := C_check_view.ex
  obtain ⟨f_check_lot, fd_check_lot, G_check_lot, g_check_lot, kp_check_lot, bi_check_lot⟩ := C_check_lot.ex
  obtain ⟨f_word_of_lot, fd_word_of_lot, G_word_of_lot, g_word_of_lot, kp_word_of_lot, bi_word_of_lot⟩ := C_word_of_lot.ex
  refine F.ok sc_can_be_left (len_can_be_left (K := K)) (fun cdv A outer s H vs Q E hr h => ?_)
  have hl : vs.length = 3 := len_can_be_left (K := K) vs H Q E h
  match vs, hl, h with
  | [v0, v1, v2], _, h => exact ⟨_, PSs.nox ((pss_cons (ps_expr (pe_call G_check_view (hr.mono (Nat.le_of_ble_eq_true rfl)) rfl g_check_view kp_check_view bi_check_view .nil pass0 (pa_cons (L2.pv 0) (pa_cons (L2.pv 1) pa_nil)))) (pss_cons (ps_expr (pe_call G_check_lot (hr.mono (Nat.le_of_ble_eq_true rfl)) rfl g_check_lot kp_check_lot bi_check_lot .nil pass0 (pa_cons (L2.pv 0) (pa_cons (L2.pv 2) pa_nil)))) (pss_cons (ps_set (i := 3) sc_can_be_left.nd rfl (Or.inr rfl) (pe_call G_word_of_lot (hr.mono (Nat.le_of_ble_eq_true rfl)) rfl g_word_of_lot kp_word_of_lot bi_word_of_lot .nil pass0 (pa_cons (L2.pv 0) (pa_cons (L2.pv 2) pa_nil)))) (pss_cons (ps_setLc (i := 4) (own := [("at", 5)]) rfl sc_can_be_left.nd rfl rfl (sw_true rfl rfl rfl (by decide +kernel)) (pi_range1 rfl b_range (pa_cons (pe_callB call_len_seq rfl b_len bt_len (pa_cons (L2.pv 1) pa_nil)) pa_nil)) (blkOk_by (own := [("at", 5)]) (N := ["array", "view", "lot", "right", "wrong", "at", "head", "content"]) (sc := defScope (top 63)) (by decide +kernel)) (fun _ _ _ _ _ => (pg_name (i := 5) sc_can_be_left.nd rfl (Or.inl rfl))) (fun _ _ _ _ _ => (pts_one (pt_cmpR op_ne (pe_ix ix_tup (pe_ix (IxR.or ix_list ix_tup) (L2.pv 1) (L2.pv 5) (fun _ _ => rfl)) pe_int (fun _ _ => rfl)) (pe_ix ix_tup (L2.pv 3) (pe_ix ix_tup (pe_ix (IxR.or ix_list ix_tup) (L2.pv 1) (L2.pv 5) (fun _ _ => rfl)) pe_int (fun _ _ => rfl)) (fun _ _ => rfl)) (nomark _)))) (fun _ _ _ _ _ => (L2.pv 5))) (pss_one (ps_ret (pe_or (pe_notT (L2.pv 4)) (pe_one (pe_callB (cr_all rfl) rfl b_all bt_all (pa_cons (pe_lc (own := [("head", 6), ("content", 7)]) rfl sc_can_be_left.nd (pi_alt (pi_list (pe_slice sl_sq (L2.pv 1) (po_some (pe_op op_add (pe_ix ix_list (L2.pv 4) pe_int (fun _ _ => rfl)) pe_int)) po_none)) (pi_tup (pe_slice sl_sq (L2.pv 1) (po_some (pe_op op_add (pe_ix ix_list (L2.pv 4) pe_int (fun _ _ => rfl)) pe_int)) po_none))) (blkOk_by (own := [("head", 6), ("content", 7)]) (N := ["array", "view", "lot", "right", "wrong", "at", "head", "content"]) (sc := defScope (top 63)) (by decide +kernel)) (fun _ _ _ _ _ => (pg_tup (n := 2) rfl (pgs_cons (pg_name (i := 6) sc_can_be_left.nd rfl (Or.inl rfl)) (pgs_cons (pg_name (i := 7) sc_can_be_left.nd rfl (Or.inl rfl)) pgs_nil)))) (fun _ _ _ _ _ => pts_nil) (fun _ _ _ _ _ => (pe_cmpR op_eq (L2.pv 7) pe_int (nomark _)))) pa_nil))))))))))), prom_ok (n := 3) (S := Unit) (Ret := (rIm K)) (As := fun i : C_Array × (Sq (Int × Int)) × (Sq Int) => [.im (pv K i.1), .im (pv K i.2.1), .im (pv K i.2.2)]) (m := fun i => m_can_be_left i.1 i.2.1 i.2.2) 5 (fun _ => rfl) rfl (fun (array, view, lot) => (show RN (rIm K) _ (fun (s : Unit) => [.im (pv K array), .im (pv K view), .im (pv K lot), .no, .no, .no, .no, .no]) (m_can_be_left array view lot) (fun (s : Unit) => [.no, .no, .no, .no, .no, .no, .no, .no]) from (rn_of (rt_seq (rp_drop (em_of_eo (eo_call0 (i := (array, view)) (ps := [pv K array, pv K view]) (fun _ => (ap_cons (ep_var rfl) (ap_cons (ep_var rfl) ap_nil))) rfl))) fun u_293 => (rt_seq (rp_drop (em_of_eo (eo_call0 (i := (array, lot)) (ps := [pv K array, pv K lot]) (fun _ => (ap_cons (ep_var rfl) (ap_cons (ep_var rfl) ap_nil))) rfl))) fun u_294 => (rt_seq (rp_asg (Γ := fun (s : Unit) => [.im (pv K array), .im (pv K view), .im (pv K lot), .no, .no, .no, .no, .no]) (i := 3) (Γ' := fun right295 (s : Unit) => [.im (pv K array), .im (pv K view), .im (pv K lot), .im (pv K right295), .no, .no, .no, .no]) (em_of_eo (eo_call0 (i := (array, lot)) (ps := [pv K array, pv K lot]) (fun _ => (ap_cons (ep_var rfl) (ap_cons (ep_var rfl) ap_nil))) rfl)) (fun _ => rfl) fun _ _ => rfl) fun right295 => (rt_seq (rp_asg (Γ := fun (s : Unit) => [.im (pv K array), .im (pv K view), .im (pv K lot), .im (pv K right295), .no, .no, .no, .no]) (i := 4) (Γ' := fun wrong307 (s : Unit) => [.im (pv K array), .im (pv K view), .im (pv K lot), .im (pv K right295), .im (pv K wrong307), .no, .no, .no]) (em_lc (Γx := fun (a296 : Int) (s : Unit) => [.im (pv K array), .im (pv K view), .im (pv K lot), .im (pv K right295), .no, .im (pv K a296), .no, .no]) (js := [5]) (im_rng1 fun _ => (ap_cons (ep_cb (ap_cons (ep_var rfl) ap_nil) c_lenSq) ap_nil)) (fun _ => rfl) (fun a296 s => (gt_name (Γ := [.im (pv K array), .im (pv K view), .im (pv K lot), .im (pv K right295), .no, .no, .no, .no]) (i := 5) (Γ' := [.im (pv K array), .im (pv K view), .im (pv K lot), .im (pv K right295), .no, .im (pv K a296), .no, .no]) rfl rfl)) rfl (fun a296 => (tm_test (em_op (g := fun (u : Int) (v : Int) => (!decide (u = v))) (em_opr (g := fun (u : (Int × Int)) (_ : Int) => u.2) (em_ixSqp (fun _ => (ep_var rfl)) fun _ => (ep_var rfl)) (fun _ => (ep_int (K := K))) fun _ => pr2_1) (em_ixTl (fun _ => (ep_var rfl)) (em_opr (g := fun (u : (Int × Int)) (_ : Int) => u.1) (em_ixSqp (fun _ => (ep_var rfl)) fun _ => (ep_var rfl)) (fun _ => (ep_int (K := K))) fun _ => pr2_0)) fun _ _ => o_ne))) (fun a296 => (em_pure fun _ => (ep_var rfl))) fun a296 s => (.cons (.rfl _) (.cons (.rfl _) (.cons (.rfl _) (.cons (.rfl _) (.cons (.rfl _) (.cons (.no _) (.cons (.rfl _) (.cons (.rfl _) .nil))))))))) (fun _ => rfl) fun _ _ => rfl) fun wrong307 => (rt_ret (em_orV (em_pure fun _ => (ep_notL (ep_var rfl))) (em_cb (f := fun (z320 : (List Bool) × Unit) => (z320.1.all id)) (am_cons (em_lc (Γx := fun (a317 : (Int × Int)) (s : Unit) => [.im (pv K array), .im (pv K view), .im (pv K lot), .im (pv K right295), .im (pv K wrong307), .no, .im (pv K a317.1), .im (pv K a317.2)]) (js := [6, 7]) (im_sqM tag_sl (em_slSq (fun _ => (ep_var rfl)) (pm_i (em_opr (g := fun (u : Int) (v : Int) => (u + v)) (em_ixLp (fun _ => (ep_var rfl)) fun _ => (ep_int (K := K))) (fun _ => (ep_int (K := K))) fun _ => o_add)) pm_no)) (fun _ => rfl) (fun a317 s => (gt_2 (gt_name (Γ := [.im (pv K array), .im (pv K view), .im (pv K lot), .im (pv K right295), .im (pv K wrong307), .no, .no, .no]) (i := 6) (Γ' := [.im (pv K array), .im (pv K view), .im (pv K lot), .im (pv K right295), .im (pv K wrong307), .no, .im (pv K a317.1), .no]) rfl rfl) (gt_name (Γ := [.im (pv K array), .im (pv K view), .im (pv K lot), .im (pv K right295), .im (pv K wrong307), .no, .im (pv K a317.1), .no]) (i := 7) (Γ' := [.im (pv K array), .im (pv K view), .im (pv K lot), .im (pv K right295), .im (pv K wrong307), .no, .im (pv K a317.1), .im (pv K a317.2)]) rfl rfl))) rfl (fun a317 => tm_yes) (fun a317 => (em_pure fun _ => (ep_op (ep_var rfl) (ep_int (K := K)) o_eq))) fun a317 s => (.cons (.rfl _) (.cons (.rfl _) (.cons (.rfl _) (.cons (.rfl _) (.cons (.rfl _) (.cons (.rfl _) (.cons (.no _) (.cons (.no _) .nil))))))))) am_nil) fun _ => c_all)) fun s => (.cons (.no _) (.cons (.no _) (.cons (.no _) (.cons (.no _) (.cons (.no _) (.cons (.rfl _) (.cons (.rfl _) (.cons (.rfl _) .nil)))))))))))))))) h⟩
theorem ok_can_be_left {f : Addr} {fd : FuncData} (F : FnP K "can_be_left" (top 63) f fd) (hg : mg "can_be_left" = some (.ref f)) (b_all : mg "all" = none) (b_len : mg "len" = none) (b_range : mg "range" = none) (C_check_view : Cal P w K mg base 5 "check_view" ["array", "view"] (sp_check_view K)) (C_check_lot : Cal P w K mg base 5 "check_lot" ["array", "lot"] (sp_check_lot K)) (C_word_of_lot : Cal P w K mg base 8 "word_of_lot" ["array", "lot"] (sp_word_of_lot K)) : Cal P w K mg base 9 "can_be_left" ["array", "view", "lot"] (sp_can_be_left K) := ⟨f, fd, fo_can_be_left F b_all b_len b_range C_check_view C_check_lot C_word_of_lot, hg, F.kp, F.bindsN fun _ _ _ _ _ _ us hl => match us, hl with | [_, _, _], _ => rfl⟩
def m_mending_by (array : C_Array) (view : (Sq (Int × Int))) : Mn Unit (List (Int × Int)) :=
  (mb (mu (m_told_by array view)) fun lot322 =>
  (mb (mp lot322.isNone) fun b => mi b
    (mb (mp (Sq.mk view.t view.l.reverse).l) fun xs => cmP xs (fun (a323 : (Int × Int)) => (mp (!decide (a323.2 = (0 : Int))))) fun a323 => (mp ((a323.1, (0 : Int)) : (Int × Int))))
    (mb (mb (mb (mp array) fun x_326 => mb (mb (mb (mo lot322) fun x => mp (Sq.mk false x)) fun x_324 => mb (mp ()) fun z325 => mp (x_324, z325)) fun z327 => mp (x_326, z327)) fun z328 => (mu (m_word_of_lot z328.1 z328.2.1))) fun right329 =>
  (mb (mp view.l) fun xs => cmP xs (fun (a330 : (Int × Int)) => (mb (mo (atI right329.l a330.1)) fun y334 => mp (!decide (a330.2 = y334)))) fun a330 => (mb (mb (mp a330.1) fun x_339 => mb (mb (mo (atI right329.l a330.1)) fun x_337 => mb (mp ()) fun z338 => mp (x_337, z338)) fun z340 => mp (x_339, z340)) fun z341 => mp (z341.1, z341.2.1))))))
abbrev sp_mending_by (K : PySem.W.Frag) : Sp := Prom (rOw (ol K)) (S := Unit) (fun i : C_Array × (Sq (Int × Int)) => [.im (pv K i.1), .im (pv K i.2)]) fun i => m_mending_by i.1 i.2
theorem len_mending_by : ∀ vs H Q E, sp_mending_by K vs H Q E → vs.length = 2 := prom_len (S := Unit) (Ret := (rOw (ol K))) (As := fun i : C_Array × (Sq (Int × Int)) => [.im (pv K i.1), .im (pv K i.2)]) (m := fun i => m_mending_by i.1 i.2) fun _ => rfl
theorem sc_mending_by : FnScope ["array", "view", "lot", "right", "head", "content"] ["array", "view"] (defScope (top 64)) := ⟨rfl, rfl, rfl, by decide +kernel, rfl, by decide +kernel, by decide +kernel⟩
theorem fo_mending_by {f : Addr} {fd : FuncData} (F : FnP K "mending_by" (top 64) f fd) (C_told_by : Cal P w K mg base 9 "told_by" ["array", "view"] (sp_told_by K)) (C_word_of_lot : Cal P w K mg base 8 "word_of_lot" ["array", "lot"] (sp_word_of_lot K)) : FnOk P w K mg base CX0 10 f fd ["array", "view"] (sp_mending_by K) := by
  obtain ⟨f_told_by, fd_told_by, G_told_by, g_told_by, kp_told_by, bi_told_by⟩ := C_told_by.ex
  obtain ⟨f_word_of_lot, fd_word_of_lot, G_word_of_lot, g_word_of_lot, kp_word_of_lot, bi_word_of_lot⟩ := C_word_of_lot.ex
  refine F.ok sc_mending_by (len_mending_by (K := K)) (fun cdv A outer s H vs Q E hr h => ?_)
  have hl : vs.length = 2 := len_mending_by (K := K) vs H Q E h
  match vs, hl, h with
  | [v0, v1], _, h => exact ⟨_, PSs.nox ((pss_cons (ps_set (i := 2) sc_mending_by.nd rfl (Or.inl rfl) (pe_call G_told_by (hr.mono (Nat.le_of_ble_eq_true rfl)) rfl g_told_by kp_told_by bi_told_by .nil pass0 (pa_cons (L2.pv 0) (pa_cons (L2.pv 1) pa_nil)))) (pss_cons (ps_if (pt_cmpR op_isN (L2.pv 2) pe_non (nomark _)) (pss_one (ps_ret (pe_lc (own := [("head", 4), ("content", 5)]) rfl sc_mending_by.nd (pi_alt (pi_list (pe_backSq (L2.pv 1))) (pi_tup (pe_backSq (L2.pv 1)))) (blkOk_by (own := [("head", 4), ("content", 5)]) (N := ["array", "view", "lot", "right", "head", "content"]) (sc := defScope (top 64)) (by decide +kernel)) (fun _ _ _ _ _ => (pg_tup (n := 2) rfl (pgs_cons (pg_name (i := 4) sc_mending_by.nd rfl (Or.inl rfl)) (pgs_cons (pg_name (i := 5) sc_mending_by.nd rfl (Or.inl rfl)) pgs_nil)))) (fun _ _ _ _ _ => (pts_one (pt_cmpR op_ne (L2.pv 5) pe_int (nomark _)))) (fun _ _ _ _ _ => (pe_tup (pa_cons (L2.pv 4) (pa_cons pe_int pa_nil))))))) pss_nil) (pss_cons (ps_set (i := 3) sc_mending_by.nd rfl (Or.inr rfl) (pe_call G_word_of_lot (hr.mono (Nat.le_of_ble_eq_true rfl)) rfl g_word_of_lot kp_word_of_lot bi_word_of_lot .nil pass0 (pa_cons (L2.pv 0) (pa_cons (L2.pv 2) pa_nil)))) (pss_one (ps_ret (pe_lc (own := [("head", 4), ("content", 5)]) rfl sc_mending_by.nd (pi_alt (pi_list (L2.pv 1)) (pi_tup (L2.pv 1))) (blkOk_by (own := [("head", 4), ("content", 5)]) (N := ["array", "view", "lot", "right", "head", "content"]) (sc := defScope (top 64)) (by decide +kernel)) (fun _ _ _ _ _ => (pg_tup (n := 2) rfl (pgs_cons (pg_name (i := 4) sc_mending_by.nd rfl (Or.inl rfl)) (pgs_cons (pg_name (i := 5) sc_mending_by.nd rfl (Or.inl rfl)) pgs_nil)))) (fun _ _ _ _ _ => (pts_one (pt_cmpR op_ne (L2.pv 5) (pe_ix ix_tup (L2.pv 3) (L2.pv 4) (fun _ _ => rfl)) (nomark _)))) (fun _ _ _ _ _ => (pe_tup (pa_cons (L2.pv 4) (pa_cons (pe_ix ix_tup (L2.pv 3) (L2.pv 4) (fun _ _ => rfl)) pa_nil))))))))))), prom_ok (n := 2) (S := Unit) (Ret := (rOw (ol K))) (As := fun i : C_Array × (Sq (Int × Int)) => [.im (pv K i.1), .im (pv K i.2)]) (m := fun i => m_mending_by i.1 i.2) 4 (fun _ => rfl) rfl (fun (array, view) => (show RN (rOw (ol K)) _ (fun (s : Unit) => [.im (pv K array), .im (pv K view), .no, .no, .no, .no]) (m_mending_by array view) (fun (s : Unit) => [.no, .no, .no, .no, .no, .no]) from (rn_of (rt_seq (rp_asg (Γ := fun (s : Unit) => [.im (pv K array), .im (pv K view), .no, .no, .no, .no]) (i := 2) (Γ' := fun lot322 (s : Unit) => [.im (pv K array), .im (pv K view), .im (pv K lot322), .no, .no, .no]) (em_ownO (eo_call0 (i := (array, view)) (ps := [pv K array, pv K view]) (fun _ => (ap_cons (ep_var rfl) (ap_cons (ep_var rfl) ap_nil))) rfl)) (fun _ => rfl) fun _ _ => rfl) fun lot322 => (rt_ifr (tm_pure fun _ => (tp_test (ep_op (ep_var rfl) (ep_non (K := K)) o_isNopt))) (rt_reto (eo_lc (Γx := fun (a323 : (Int × Int)) (s : Unit) => [.im (pv K array), .im (pv K view), .im (pv K lot322), .no, .im (pv K a323.1), .im (pv K a323.2)]) (js := [4, 5]) (im_sq fun _ => (ep_backSq (ep_var rfl))) (fun _ => rfl) (fun a323 s => (gt_2 (gt_name (Γ := [.im (pv K array), .im (pv K view), .im (pv K lot322), .no, .no, .no]) (i := 4) (Γ' := [.im (pv K array), .im (pv K view), .im (pv K lot322), .no, .im (pv K a323.1), .no]) rfl rfl) (gt_name (Γ := [.im (pv K array), .im (pv K view), .im (pv K lot322), .no, .im (pv K a323.1), .no]) (i := 5) (Γ' := [.im (pv K array), .im (pv K view), .im (pv K lot322), .no, .im (pv K a323.1), .im (pv K a323.2)]) rfl rfl))) rfl (fun a323 => (tm_pure fun _ => (tp_test (ep_op (ep_var rfl) (ep_int (K := K)) o_ne)))) (fun a323 => (em_pure fun _ => (ep_tup (ap_cons (ep_var rfl) (ap_cons (ep_int (K := K)) ap_nil)) tup2))) fun a323 s => (.cons (.rfl _) (.cons (.rfl _) (.cons (.rfl _) (.cons (.rfl _) (.cons (.no _) (.cons (.no _) .nil))))))) fun s => (.cons (.no _) (.cons (.no _) (.cons (.no _) (.cons (.rfl _) (.cons (.rfl _) (.cons (.rfl _) .nil))))))) (rt_seq (rp_asg (Γ := fun (s : Unit) => [.im (pv K array), .im (pv K view), .im (pv K lot322), .no, .no, .no]) (i := 3) (Γ' := fun right329 (s : Unit) => [.im (pv K array), .im (pv K view), .im (pv K lot322), .im (pv K right329), .no, .no]) (em_of_eo (eo_call0M (f := fun (z328 : C_Array × (Sq Int) × Unit) => (z328.1, z328.2.1)) (am_cons (em_pure fun _ => (ep_var rfl)) (am_cons (em_sqL (em_unopt fun _ => (ep_var rfl))) am_nil)) fun _ => rfl)) (fun _ => rfl) fun _ _ => rfl) fun right329 => (rt_reto (eo_lc (Γx := fun (a330 : (Int × Int)) (s : Unit) => [.im (pv K array), .im (pv K view), .im (pv K lot322), .im (pv K right329), .im (pv K a330.1), .im (pv K a330.2)]) (js := [4, 5]) (im_sq fun _ => (ep_var rfl)) (fun _ => rfl) (fun a330 s => (gt_2 (gt_name (Γ := [.im (pv K array), .im (pv K view), .im (pv K lot322), .im (pv K right329), .no, .no]) (i := 4) (Γ' := [.im (pv K array), .im (pv K view), .im (pv K lot322), .im (pv K right329), .im (pv K a330.1), .no]) rfl rfl) (gt_name (Γ := [.im (pv K array), .im (pv K view), .im (pv K lot322), .im (pv K right329), .im (pv K a330.1), .no]) (i := 5) (Γ' := [.im (pv K array), .im (pv K view), .im (pv K lot322), .im (pv K right329), .im (pv K a330.1), .im (pv K a330.2)]) rfl rfl))) rfl (fun a330 => (tm_test (em_opl (g := fun (u : Int) (v : Int) => (!decide (u = v))) (fun _ => (ep_var rfl)) (em_ixTp (fun _ => (ep_var rfl)) fun _ => (ep_var rfl)) fun _ => o_ne))) (fun a330 => (em_tup (f := fun (z341 : Int × Int × Unit) => (z341.1, z341.2.1)) (am_cons (em_pure fun _ => (ep_var rfl)) (am_cons (em_ixTp (fun _ => (ep_var rfl)) fun _ => (ep_var rfl)) am_nil)) fun z341 => tup2)) fun a330 s => (.cons (.rfl _) (.cons (.rfl _) (.cons (.rfl _) (.cons (.rfl _) (.cons (.no _) (.cons (.no _) .nil))))))) fun s => (.cons (.no _) (.cons (.no _) (.cons (.no _) (.cons (.no _) (.cons (.rfl _) (.cons (.rfl _) .nil))))))))))))) h⟩
theorem ok_mending_by {f : Addr} {fd : FuncData} (F : FnP K "mending_by" (top 64) f fd) (hg : mg "mending_by" = some (.ref f)) (C_told_by : Cal P w K mg base 9 "told_by" ["array", "view"] (sp_told_by K)) (C_word_of_lot : Cal P w K mg base 8 "word_of_lot" ["array", "lot"] (sp_word_of_lot K)) : Cal P w K mg base 10 "mending_by" ["array", "view"] (sp_mending_by K) := ⟨f, fd, fo_mending_by F C_told_by C_word_of_lot, hg, F.kp, F.bindsN fun _ _ _ _ _ _ us hl => match us, hl with | [_, _], _ => rfl⟩
def m_mending (array : C_Array) (view : (Sq (Int × Int))) : Mn Unit (List (Int × Int)) :=
  (mb (mu (m_check_long_view array view)) fun u_342 =>
  (mu (m_mending_by array view)))
abbrev sp_mending (K : PySem.W.Frag) : Sp := Prom (rOw (ol K)) (S := Unit) (fun i : C_Array × (Sq (Int × Int)) => [.im (pv K i.1), .im (pv K i.2)]) fun i => m_mending i.1 i.2
theorem len_mending : ∀ vs H Q E, sp_mending K vs H Q E → vs.length = 2 := prom_len (S := Unit) (Ret := (rOw (ol K))) (As := fun i : C_Array × (Sq (Int × Int)) => [.im (pv K i.1), .im (pv K i.2)]) (m := fun i => m_mending i.1 i.2) fun _ => rfl
theorem sc_mending : FnScope ["array", "view"] ["array", "view"] (defScope (top 65)) := ⟨rfl, rfl, rfl, by decide +kernel, rfl, by decide +kernel, by decide +kernel⟩
theorem fo_mending {f : Addr} {fd : FuncData} (F : FnP K "mending" (top 65) f fd) (C_check_long_view : Cal P w K mg base 6 "check_long_view" ["array", "view"] (sp_check_long_view K)) (C_mending_by : Cal P w K mg base 10 "mending_by" ["array", "view"] (sp_mending_by K)) : FnOk P w K mg base CX0 11 f fd ["array", "view"] (sp_mending K) := by
  obtain ⟨f_check_long_view, fd_check_long_view, G_check_long_view, g_check_long_view, kp_check_long_view, bi_check_long_view⟩ := C_check_long_view.ex
  obtain ⟨f_mending_by, fd_mending_by, G_mending_by, g_mending_by, kp_mending_by, bi_mending_by⟩ := C_mending_by.ex
  refine F.ok sc_mending (len_mending (K := K)) (fun cdv A outer s H vs Q E hr h => ?_)
  have hl : vs.length = 2 := len_mending (K := K) vs H Q E h
  match vs, hl, h with
  | [v0, v1], _, h => exact ⟨_, PSs.nox ((pss_cons (ps_expr (pe_call G_check_long_view (hr.mono (Nat.le_of_ble_eq_true rfl)) rfl g_check_long_view kp_check_long_view bi_check_long_view .nil pass0 (pa_cons (L2.pv 0) (pa_cons (L2.pv 1) pa_nil)))) (pss_one (ps_ret (pe_call G_mending_by (hr.mono (Nat.le_of_ble_eq_true rfl)) rfl g_mending_by kp_mending_by bi_mending_by .nil pass0 (pa_cons (L2.pv 0) (pa_cons (L2.pv 1) pa_nil))))))), prom_ok (n := 2) (S := Unit) (Ret := (rOw (ol K))) (As := fun i : C_Array × (Sq (Int × Int)) => [.im (pv K i.1), .im (pv K i.2)]) (m := fun i => m_mending i.1 i.2) 0 (fun _ => rfl) rfl (fun (array, view) => (show RN (rOw (ol K)) _ (fun (s : Unit) => [.im (pv K array), .im (pv K view)]) (m_mending array view) (fun (s : Unit) => [.no, .no]) from (rn_of (rt_seq (rp_drop (em_of_eo (eo_call0 (i := (array, view)) (ps := [pv K array, pv K view]) (fun _ => (ap_cons (ep_var rfl) (ap_cons (ep_var rfl) ap_nil))) rfl))) fun u_342 => (rt_reto (eo_call0 (i := (array, view)) (ps := [pv K array, pv K view]) (fun _ => (ap_cons (ep_var rfl) (ap_cons (ep_var rfl) ap_nil))) rfl) fun s => (.cons (.no _) (.cons (.no _) .nil))))))) h⟩
theorem ok_mending {f : Addr} {fd : FuncData} (F : FnP K "mending" (top 65) f fd) (hg : mg "mending" = some (.ref f)) (C_check_long_view : Cal P w K mg base 6 "check_long_view" ["array", "view"] (sp_check_long_view K)) (C_mending_by : Cal P w K mg base 10 "mending_by" ["array", "view"] (sp_mending_by K)) : Cal P w K mg base 11 "mending" ["array", "view"] (sp_mending K) := ⟨f, fd, fo_mending F C_check_long_view C_mending_by, hg, F.kp, F.bindsN fun _ _ _ _ _ _ us hl => match us, hl with | [_, _], _ => rfl⟩
def gl_mending__view_array : List Value → List Value → List Value
  | [], [a0, a1] => [a1, a0]
  | _, _ => []
def gv_mending__view_array : List V → List V → List V
  | [], [a0, a1] => [a1, a0]
  | _, _ => []
theorem kb_mending__view_array {f : Addr} {fd : FuncData} (F : FnP K "mending" (top 65) f fd) : KBinds K fd ["array", "view"] ["view", "array"] gl_mending__view_array gv_mending__view_array := by
  obtain ⟨oc, od, dV, kV, doc, pm, an, cdv, ct, osl, rfl, lk, hcd, hD, hK⟩ := F.ex
  rcases hD with ⟨_, rfl⟩ | ⟨e, _⟩
  · refine ⟨fun s us ws X hl => ?_, fun {vs us zs ws} r1 r2 => ?_⟩
    · match us, ws, hl with
      | [], [a0, a1], _ => exact .of_eq rfl
    · match vs, us, zs, ws, r1, r2 with
      | [], [], [_, _], [_, _], .nil, (.cons r0 (.cons r1 .nil)) => exact (.cons r1 (.cons r0 .nil))
      | _ :: _, _ :: _, _, _, .cons _ _, _ => exact .nil
      | [], [], [], [], .nil, .nil => exact .nil
      | [], [], [_], [_], .nil, (.cons _ .nil) => exact .nil
      | [], [], _ :: _ :: _ :: _, _ :: _ :: _ :: _, .nil, (.cons _ (.cons _ (.cons _ _))) => exact .nil
  · exact absurd rfl e
theorem okK_mending__view_array {f : Addr} {fd : FuncData} (F : FnP K "mending" (top 65) f fd) (hg : mg "mending" = some (.ref f)) (C_check_long_view : Cal P w K mg base 6 "check_long_view" ["array", "view"] (sp_check_long_view K)) (C_mending_by : Cal P w K mg base 10 "mending_by" ["array", "view"] (sp_mending_by K)) : CalK P w K mg base 11 "mending" ["array", "view"] (sp_mending K) ["view", "array"] gl_mending__view_array gv_mending__view_array := ⟨f, fd, fo_mending F C_check_long_view C_mending_by, hg, F.kp, kb_mending__view_array F⟩
def m__law_cell (script : Scr) (k : Int) : Mn Unit Int :=
  (mb (mp (decide (k < ((script.l.length : Nat) : Int)))) fun b343 => mi b343 (mo (atI script.l k)) (mp ((((6007 : Int) * k) + (((cutL script.l none (some (1 : Int)))).sum % (1000033 : Int))) : Int)))
abbrev sp__law_cell (K : PySem.W.Frag) : Sp := Prom (rIm K) (S := Unit) (fun i : Scr × Int => [.im (pv K i.1), .im (pv K i.2)]) fun i => m__law_cell i.1 i.2
theorem len__law_cell : ∀ vs H Q E, sp__law_cell K vs H Q E → vs.length = 2 := prom_len (S := Unit) (Ret := (rIm K)) (As := fun i : Scr × Int => [.im (pv K i.1), .im (pv K i.2)]) (m := fun i => m__law_cell i.1 i.2) fun _ => rfl
theorem sc__law_cell : FnScope ["script", "k"] ["script", "k"] (defScope (top 67)) := ⟨rfl, rfl, rfl, by decide +kernel, rfl, by decide +kernel, by decide +kernel⟩
theorem fo__law_cell {f : Addr} {fd : FuncData} (F : FnP K "_law_cell" (top 67) f fd) (b_int : mg "int" = none) (b_len : mg "len" = none) (b_sum : mg "sum" = none) : FnOk P w K mg base CX0 1 f fd ["script", "k"] (sp__law_cell K) := by
  refine F.ok sc__law_cell (len__law_cell (K := K)) (fun cdv A outer s H vs Q E hr h => ?_)
  have hl : vs.length = 2 := len__law_cell (K := K) vs H Q E h
  match vs, hl, h with
  | [v0, v1], _, h => exact ⟨_, PSs.nox ((pss_one (ps_ret (pe_ifExp (pt_cmpR op_lt (L2.pv 1) (pe_callB call_len_seq rfl b_len bt_len (pa_cons (L2.pv 0) pa_nil)) (nomark _)) (pe_ix ix_list (L2.pv 0) (L2.pv 1) (fun _ _ => rfl)) (pe_op op_add (pe_op op_mul pe_int (L2.pv 1)) (pe_op op_mod (pe_callTy call_int1 rfl b_int bt_int (pa_cons (pe_callB (cr_sum rfl) rfl b_sum bt_sum (pa_cons (pe_slice sl_list (L2.pv 0) po_none (po_some pe_int)) pa_nil)) pa_nil)) pe_int)))))), prom_ok (n := 2) (S := Unit) (Ret := (rIm K)) (As := fun i : Scr × Int => [.im (pv K i.1), .im (pv K i.2)]) (m := fun i => m__law_cell i.1 i.2) 0 (fun _ => rfl) rfl (fun (script, k) => (show RN (rIm K) _ (fun (s : Unit) => [.im (pv K script), .im (pv K k)]) (m__law_cell script k) (fun (s : Unit) => [.no, .no]) from (rn_of (rt_ret (em_if (tm_pure fun _ => (tp_test (ep_op (ep_var rfl) (ep_cb (ap_cons (ep_var rfl) ap_nil) c_lenS) o_lt))) (em_ixSp (fun _ => (ep_var rfl)) fun _ => (ep_var rfl)) (em_pure fun _ => (ep_op (ep_op (ep_int (K := K)) (ep_var rfl) (o_mulL rfl)) (ep_op (ep_cb (ap_cons (ep_cb (ap_cons (ep_slS (ep_var rfl) po_no (po_i (ep_int (K := K)))) ap_nil) c_sum) ap_nil) c_int) (ep_int (K := K)) (o_mod rfl)) o_add))) fun s => (.cons (.no _) (.cons (.no _) .nil)))))) h⟩
theorem ok__law_cell {f : Addr} {fd : FuncData} (F : FnP K "_law_cell" (top 67) f fd) (hg : mg "_law_cell" = some (.ref f)) (b_int : mg "int" = none) (b_len : mg "len" = none) (b_sum : mg "sum" = none) : Cal P w K mg base 1 "_law_cell" ["script", "k"] (sp__law_cell K) := ⟨f, fd, fo__law_cell F b_int b_len b_sum, hg, F.kp, F.bindsN fun _ _ _ _ _ _ us hl => match us, hl with | [_, _], _ => rfl⟩
def m__law_box (great : Int) : Mn (Sto K) Ref :=
  (mb (mb (mp ((if great < 0 then -great else great) : Int)) fun x_350 => mb (mb (mp (decide (((10 : Int) ^ (18 : Int).toNat) ≤ (if great < 0 then -great else great)) : Bool)) fun x_348 => mb (mb (mp (((if great < 0 then -great else great) % (2147483629 : Int)) : Int)) fun x_346 => mb (mb (mp ((0 : Int) : Int)) fun x_344 => mb (mp ()) fun z345 => mp (x_344, z345)) fun z347 => mp (x_346, z347)) fun z349 => mp (x_348, z349)) fun z351 => mp (x_350, z351)) fun z352 => mnew (.lst [PyT.enc z352.1, PyT.enc z352.2.1, PyT.enc z352.2.2.1, PyT.enc z352.2.2.2.1]))
abbrev sp__law_box (K : PySem.W.Frag) : Sp := Prom (rIm K) (S := (Sto K)) (fun i : Int => [.im (pv K i)]) fun i => m__law_box i
theorem len__law_box : ∀ vs H Q E, sp__law_box K vs H Q E → vs.length = 1 := prom_len (S := (Sto K)) (Ret := (rIm K)) (As := fun i : Int => [.im (pv K i)]) (m := fun i => m__law_box i) fun _ => rfl
theorem sc__law_box : FnScope ["great"] ["great"] (defScope (top 68)) := ⟨rfl, rfl, rfl, by decide +kernel, rfl, by decide +kernel, by decide +kernel⟩
theorem fo__law_box {f : Addr} {fd : FuncData} (F : FnP K "_law_box" (top 68) f fd) (b_abs : mg "abs" = none) (b_int : mg "int" = none) : FnOk P w K mg base CX0 1 f fd ["great"] (sp__law_box K) := by
  refine F.ok sc__law_box (len__law_box (K := K)) (fun cdv A outer s H vs Q E hr h => ?_)
  have hl : vs.length = 1 := len__law_box (K := K) vs H Q E h
  match vs, hl, h with
  | [v0], _, h => exact ⟨_, PSs.nox ((pss_one (ps_ret (pe_lst (pa_cons (pe_callB call_abs rfl b_abs bt_abs (pa_cons (L2.pv 0) pa_nil)) (pa_cons (pe_cmpR op_ge (pe_callB call_abs rfl b_abs bt_abs (pa_cons (L2.pv 0) pa_nil)) (pe_op op_pow pe_int pe_int) (nomark _)) (pa_cons (pe_op op_mod (pe_callTy call_int1 rfl b_int bt_int (pa_cons (pe_callB call_abs rfl b_abs bt_abs (pa_cons (L2.pv 0) pa_nil)) pa_nil)) pe_int) (pa_cons pe_int pa_nil)))))))), prom_ok (n := 1) (S := (Sto K)) (Ret := (rIm K)) (As := fun i : Int => [.im (pv K i)]) (m := fun i => m__law_box i) 0 (fun _ => rfl) rfl (fun great => (show RN (rIm K) _ (fun (s : (Sto K)) => [.im (pv K great)]) (m__law_box great) (fun (s : (Sto K)) => [.no]) from (rn_of (rt_ret (em_newL (items := fun (z352 : Int × Bool × Int × Int × Unit) => [PyT.enc z352.1, PyT.enc z352.2.1, PyT.enc z352.2.2.1, PyT.enc z352.2.2.2.1]) (am_cons (em_pure fun _ => (ep_cb (ap_cons (ep_var rfl) ap_nil) c_abs)) (am_cons (em_pure fun _ => (ep_op (ep_cb (ap_cons (ep_var rfl) ap_nil) c_abs) (ep_op (ep_int (K := K)) (ep_int (K := K)) (o_pow rfl)) o_ge)) (am_cons (em_pure fun _ => (ep_op (ep_cb (ap_cons (ep_cb (ap_cons (ep_var rfl) ap_nil) c_abs) ap_nil) c_int) (ep_int (K := K)) (o_mod rfl))) (am_cons (em_pure fun _ => (ep_int (K := K))) am_nil)))) (by intro z I vs h; obtain ⟨_, _, rfl, r0, h⟩ := all2_c h; obtain ⟨_, _, rfl, r1, h⟩ := all2_c h; obtain ⟨_, _, rfl, r2, h⟩ := all2_c h; obtain ⟨_, _, rfl, r3, h⟩ := all2_c h; cases all2_n h; exact ⟨_, _, rfl, PyT.rel r0, ⟨_, _, rfl, PyT.rel r1, ⟨_, _, rfl, PyT.rel r2, ⟨_, _, rfl, PyT.rel r3, rfl⟩⟩⟩⟩) (fun _ => Nat.le_of_ble_eq_true rfl) fun _ _ => rfl) fun s => (.cons (.no _) .nil))))) h⟩
theorem ok__law_box {f : Addr} {fd : FuncData} (F : FnP K "_law_box" (top 68) f fd) (hg : mg "_law_box" = some (.ref f)) (b_abs : mg "abs" = none) (b_int : mg "int" = none) : Cal P w K mg base 1 "_law_box" ["great"] (sp__law_box K) := ⟨f, fd, fo__law_box F b_abs b_int, hg, F.kp, F.bindsN fun _ _ _ _ _ _ us hl => match us, hl with | [_], _ => rfl⟩
def m__law_take (box : Ref) (many : Int) : Mn (Sto K) Int :=
  (mb (mb (mb (mp ((1 : Int) : Int)) fun i353 => mb (mldL box) fun xs => mo ((atI xs i353).bind (PyT.dec (α := Bool)))) fun b357 => mi b357 (mb (mb (mp ((0 : Int) : Int)) fun i354 => mb (mldL box) fun xs => mo ((atI xs i354).bind (PyT.dec (α := Int)))) fun x_355 => mp (decide ((0 : Int) < x_355))) (mp false)) fun b => mi b
    (mb (mb (mb (mb (mb (mp ((0 : Int) : Int)) fun i358 => mb (mldL box) fun xs => mo ((atI xs i358).bind (PyT.dec (α := Int)))) fun x_359 => mb (mp ()) fun z360 => mp (x_359, z360)) fun z361 => mp z361.1) fun x_362 => mc (modOk many) (x_362 % many)) fun digit364 =>
  (mb (mb (mb (mb (mp ((0 : Int) : Int)) fun i365 => mb (mldL box) fun xs => mo ((atI xs i365).bind (PyT.dec (α := Int)))) fun x_366 => mc (divOk many) (x_366 / many)) fun (x_369 : Int) => mb (mp ((0 : Int) : Int)) fun i370 => mb (mldL box) fun xs => mb (mo (ixN xs.length i370)) fun k => mput box (.lst (xs.set k (PyT.enc x_369)))) fun u_368 =>
  (mp digit364)))
    (mb (mb (mb (mb (mp ((3 : Int) : Int)) fun i371 => mb (mldL box) fun xs => mo ((atI xs i371).bind (PyT.dec (α := Int)))) fun x_372 => mp (x_372 + (1 : Int))) fun (x_375 : Int) => mb (mp ((3 : Int) : Int)) fun i376 => mb (mldL box) fun xs => mb (mo (ixN xs.length i376)) fun k => mput box (.lst (xs.set k (PyT.enc x_375)))) fun u_374 =>
  (mb (mb (mb (mb (mb (mb (mb (mb (mp ((2 : Int) : Int)) fun i377 => mb (mldL box) fun xs => mo ((atI xs i377).bind (PyT.dec (α := Int)))) fun x_381 => mb (mb (mb (mp ((3 : Int) : Int)) fun i378 => mb (mldL box) fun xs => mo ((atI xs i378).bind (PyT.dec (α := Int)))) fun y380 => mp ((15485863 : Int) * y380)) fun y382 => mp (x_381 + y382)) fun x_383 => mp (x_383 + (179424673 : Int))) fun x_385 => mc (powOk x_385 (5 : Int)) (x_385 ^ (5 : Int).toNat)) fun x_387 => mb (mp ()) fun z388 => mp (x_387, z388)) fun z389 => mp z389.1) fun x_390 => mp (x_390 % (2147483647 : Int))) fun mixed392 =>
  (mb (mb (mb (mb (mb (mb (mb (mb (mb (mb (mb (mp ((3 : Int) : Int)) fun i393 => mb (mldL box) fun xs => mo ((atI xs i393).bind (PyT.dec (α := Int)))) fun y395 => mp ((104729 : Int) * y395)) fun y397 => mp ((mixed392 * (48271 : Int)) + y397)) fun x_398 => mc (powOk x_398 (3 : Int)) (x_398 ^ (3 : Int).toNat)) fun x_400 => mb (mp ()) fun z401 => mp (x_400, z401)) fun z402 => mp z402.1) fun x_403 => mp (x_403 % (2147483587 : Int))) fun x_405 => mp (x_405 / (64 : Int))) fun x_407 => mb (mp ()) fun z408 => mp (x_407, z408)) fun z409 => mp z409.1) fun x_410 => mc (modOk many) (x_410 % many)))))
abbrev sp__law_take (K : PySem.W.Frag) : Sp := Prom (rIm K) (S := (Sto K)) (fun i : Ref × Int => [.im (pv K i.1), .im (pv K i.2)]) fun i => m__law_take i.1 i.2
theorem len__law_take : ∀ vs H Q E, sp__law_take K vs H Q E → vs.length = 2 := prom_len (S := (Sto K)) (Ret := (rIm K)) (As := fun i : Ref × Int => [.im (pv K i.1), .im (pv K i.2)]) (m := fun i => m__law_take i.1 i.2) fun _ => rfl
theorem sc__law_take : FnScope ["box", "many", "digit", "mixed"] ["box", "many"] (defScope (top 69)) := ⟨rfl, rfl, rfl, by decide +kernel, rfl, by decide +kernel, by decide +kernel⟩
theorem fo__law_take {f : Addr} {fd : FuncData} (F : FnP K "_law_take" (top 69) f fd) (b_int : mg "int" = none) : FnOk P w K mg base CX0 1 f fd ["box", "many"] (sp__law_take K) := by
  refine F.ok sc__law_take (len__law_take (K := K)) (fun cdv A outer s H vs Q E hr h => ?_)
  have hl : vs.length = 2 := len__law_take (K := K) vs H Q E h
  match vs, hl, h with
  | [v0, v1], _, h => exact ⟨_, PSs.nox ((pss_cons (ps_if (PW.pt (pw_and (pt_val (pe_ix ix_list (L2.pv 0) pe_int (fun _ _ => rfl))) (pw_and1 (pt_cmpR op_gt (pe_ix ix_list (L2.pv 0) pe_int (fun _ _ => rfl)) pe_int (nomark _))))) (pss_cons (ps_set (i := 2) sc__law_take.nd rfl (Or.inl rfl) (pe_op op_mod (pe_callTy call_int1 rfl b_int bt_int (pa_cons (pe_ix ix_list (L2.pv 0) pe_int (fun _ _ => rfl)) pa_nil)) (L2.pv 1))) (pss_cons (ps_asg (pe_op op_fdivW (pe_ix ix_list (L2.pv 0) pe_int (fun _ _ => rfl)) (L2.pv 1)) (pg_sub (L2.pv 0) pe_int set_list)) (pss_one (ps_ret (L2.pv 2))))) pss_nil) (pss_cons (ps_asg (pe_op op_add (pe_ix ix_list (L2.pv 0) pe_int (fun _ _ => rfl)) pe_int) (pg_sub (L2.pv 0) pe_int set_list)) (pss_cons (ps_set (i := 3) sc__law_take.nd rfl (Or.inl rfl) (pe_op op_mod (pe_callTy call_int1 rfl b_int bt_int (pa_cons (pe_op op_pow (pe_op op_add (pe_op op_add (pe_ix ix_list (L2.pv 0) pe_int (fun _ _ => rfl)) (pe_op op_mul pe_int (pe_ix ix_list (L2.pv 0) pe_int (fun _ _ => rfl)))) pe_int) pe_int) pa_nil)) pe_int)) (pss_one (ps_ret (pe_op op_mod (pe_callTy call_int1 rfl b_int bt_int (pa_cons (pe_op op_fdivW (pe_op op_mod (pe_callTy call_int1 rfl b_int bt_int (pa_cons (pe_op op_pow (pe_op op_add (pe_op op_mul (L2.pv 3) pe_int) (pe_op op_mul pe_int (pe_ix ix_list (L2.pv 0) pe_int (fun _ _ => rfl)))) pe_int) pa_nil)) pe_int) pe_int) pa_nil)) (L2.pv 1)))))))), prom_ok (n := 2) (S := (Sto K)) (Ret := (rIm K)) (As := fun i : Ref × Int => [.im (pv K i.1), .im (pv K i.2)]) (m := fun i => m__law_take i.1 i.2) 2 (fun _ => rfl) rfl (fun (box, many) => (show RN (rIm K) _ (fun (s : (Sto K)) => [.im (pv K box), .im (pv K many), .no, .no]) (m__law_take box many) (fun (s : (Sto K)) => [.no, .no, .no, .no]) from (rn_of (rt_ifr (tm_and (tm_B (em_ixR (r := box) (fun _ => (ep_var rfl)) (em_pure fun _ => (ep_int (K := K))))) (tm_test (em_opr (g := fun (u : Int) (v : Int) => decide (v < u)) (em_ixR (r := box) (fun _ => (ep_var rfl)) (em_pure fun _ => (ep_int (K := K)))) (fun _ => (ep_int (K := K))) fun _ => o_gt))) (rt_seq (rp_asg (Γ := fun (s : (Sto K)) => [.im (pv K box), .im (pv K many), .no, .no]) (i := 2) (Γ' := fun digit364 (s : (Sto K)) => [.im (pv K box), .im (pv K many), .im (pv K digit364), .no]) (em_oprC (g := fun (u : Int) (v : Int) => (u % v)) (c := fun (u : Int) (v : Int) => modOk v) (em_cb (f := fun (z361 : Int × Unit) => z361.1) (am_cons (em_ixR (r := box) (fun _ => (ep_var rfl)) (em_pure fun _ => (ep_int (K := K)))) am_nil) fun _ => c_int) (fun _ => (ep_var rfl)) fun _ h => (o_mod h)) (fun _ => rfl) fun _ _ => rfl) fun digit364 => (rt_seq (rp_setR (r := box) (em_oprC (g := fun (u : Int) (v : Int) => (u / v)) (c := fun (u : Int) (v : Int) => divOk v) (em_ixR (r := box) (fun _ => (ep_var rfl)) (em_pure fun _ => (ep_int (K := K)))) (fun _ => (ep_var rfl)) fun _ h => (o_divW h)) (fun _ => (ep_var rfl)) (em_pure fun _ => (ep_int (K := K))) fun _ _ => rfl) fun u_368 => (rt_ret (em_pure fun _ => (ep_var rfl)) fun s => (.cons (.no _) (.cons (.no _) (.cons (.no _) (.cons (.rfl _) .nil))))))) (rt_seq (rp_setR (r := box) (em_opr (g := fun (u : Int) (v : Int) => (u + v)) (em_ixR (r := box) (fun _ => (ep_var rfl)) (em_pure fun _ => (ep_int (K := K)))) (fun _ => (ep_int (K := K))) fun _ => o_add) (fun _ => (ep_var rfl)) (em_pure fun _ => (ep_int (K := K))) fun _ _ => rfl) fun u_374 => (rt_seq (rp_asg (Γ := fun (s : (Sto K)) => [.im (pv K box), .im (pv K many), .no, .no]) (i := 3) (Γ' := fun mixed392 (s : (Sto K)) => [.im (pv K box), .im (pv K many), .no, .im (pv K mixed392)]) (em_opr (g := fun (u : Int) (v : Int) => (u % v)) (em_cb (f := fun (z389 : Int × Unit) => z389.1) (am_cons (em_oprC (g := fun (u : Int) (v : Int) => (u ^ v.toNat)) (c := fun (u : Int) (v : Int) => powOk u v) (em_opr (g := fun (u : Int) (v : Int) => (u + v)) (em_op (g := fun (u : Int) (v : Int) => (u + v)) (em_ixR (r := box) (fun _ => (ep_var rfl)) (em_pure fun _ => (ep_int (K := K)))) (em_opl (g := fun (u : Int) (v : Int) => (u * v)) (fun _ => (ep_int (K := K))) (em_ixR (r := box) (fun _ => (ep_var rfl)) (em_pure fun _ => (ep_int (K := K)))) fun _ => (o_mulL rfl)) fun _ _ => o_add) (fun _ => (ep_int (K := K))) fun _ => o_add) (fun _ => (ep_int (K := K))) fun _ h => (o_pow h)) am_nil) fun _ => c_int) (fun _ => (ep_int (K := K))) fun _ => (o_mod rfl)) (fun _ => rfl) fun _ _ => rfl) fun mixed392 => (rt_ret (em_oprC (g := fun (u : Int) (v : Int) => (u % v)) (c := fun (u : Int) (v : Int) => modOk v) (em_cb (f := fun (z409 : Int × Unit) => z409.1) (am_cons (em_opr (g := fun (u : Int) (v : Int) => (u / v)) (em_opr (g := fun (u : Int) (v : Int) => (u % v)) (em_cb (f := fun (z402 : Int × Unit) => z402.1) (am_cons (em_oprC (g := fun (u : Int) (v : Int) => (u ^ v.toNat)) (c := fun (u : Int) (v : Int) => powOk u v) (em_opl (g := fun (u : Int) (v : Int) => (u + v)) (fun _ => (ep_op (ep_var rfl) (ep_int (K := K)) (o_mulR rfl))) (em_opl (g := fun (u : Int) (v : Int) => (u * v)) (fun _ => (ep_int (K := K))) (em_ixR (r := box) (fun _ => (ep_var rfl)) (em_pure fun _ => (ep_int (K := K)))) fun _ => (o_mulL rfl)) fun _ => o_add) (fun _ => (ep_int (K := K))) fun _ h => (o_pow h)) am_nil) fun _ => c_int) (fun _ => (ep_int (K := K))) fun _ => (o_mod rfl)) (fun _ => (ep_int (K := K))) fun _ => (o_divW rfl)) am_nil) fun _ => c_int) (fun _ => (ep_var rfl)) fun _ h => (o_mod h)) fun s => (.cons (.no _) (.cons (.no _) (.cons (.rfl _) (.cons (.no _) .nil))))))))))) h⟩
theorem ok__law_take {f : Addr} {fd : FuncData} (F : FnP K "_law_take" (top 69) f fd) (hg : mg "_law_take" = some (.ref f)) (b_int : mg "int" = none) : Cal P w K mg base 1 "_law_take" ["box", "many"] (sp__law_take K) := ⟨f, fd, fo__law_take F b_int, hg, F.kp, F.bindsN fun _ _ _ _ _ _ us hl => match us, hl with | [_, _], _ => rfl⟩
def m__law_power (base_ : Int) (many : Int) : Mn Unit Int :=
  (mb (mp ((1 : Int) : Int)) fun found412 =>
  (mb (mb (mc (b62 many) (rng 0 many.toNat)) fun xs => forP xs found412 fun a414 (t413 : Int) =>
    (mb (mc (mulOk t413 base_) (t413 * base_)) fun found415 => mp found415)) fun t416 =>
  (mp t416)))
abbrev sp__law_power (K : PySem.W.Frag) : Sp := Prom (rIm K) (S := Unit) (fun i : Int × Int => [.im (pv K i.1), .im (pv K i.2)]) fun i => m__law_power i.1 i.2
theorem len__law_power : ∀ vs H Q E, sp__law_power K vs H Q E → vs.length = 2 := prom_len (S := Unit) (Ret := (rIm K)) (As := fun i : Int × Int => [.im (pv K i.1), .im (pv K i.2)]) (m := fun i => m__law_power i.1 i.2) fun _ => rfl
theorem sc__law_power : FnScope ["base", "many", "found", "turn"] ["base", "many"] (defScope (top 70)) := ⟨rfl, rfl, rfl, by decide +kernel, rfl, by decide +kernel, by decide +kernel⟩
theorem fo__law_power {f : Addr} {fd : FuncData} (F : FnP K "_law_power" (top 70) f fd) (b_range : mg "range" = none) : FnOk P w K mg base CX0 1 f fd ["base", "many"] (sp__law_power K) := by
  refine F.ok sc__law_power (len__law_power (K := K)) (fun cdv A outer s H vs Q E hr h => ?_)
  have hl : vs.length = 2 := len__law_power (K := K) vs H Q E h
  match vs, hl, h with
  | [v0, v1], _, h => exact ⟨_, PSs.nox ((pss_cons (ps_set (i := 2) sc__law_power.nd rfl (Or.inl rfl) pe_int) (pss_cons (ps_for PassesOwn.never rfl (pi_range1 rfl b_range (pa_cons (L2.pv 1) pa_nil)) (pg_name (i := 3) sc__law_power.nd rfl (Or.inl rfl)) (pss_one (ps_set (i := 2) sc__law_power.nd rfl (Or.inl rfl) (pe_op op_mulW (L2.pv 2) (L2.pv 0))))) (pss_one (ps_ret (L2.pv 2)))))), prom_ok (n := 2) (S := Unit) (Ret := (rIm K)) (As := fun i : Int × Int => [.im (pv K i.1), .im (pv K i.2)]) (m := fun i => m__law_power i.1 i.2) 2 (fun _ => rfl) rfl (fun (base_, many) => (show RN (rIm K) _ (fun (s : Unit) => [.im (pv K base_), .im (pv K many), .no, .no]) (m__law_power base_ many) (fun (s : Unit) => [.no, .no, .no, .no]) from (rn_of (rt_seq (rp_asg (Γ := fun (s : Unit) => [.im (pv K base_), .im (pv K many), .no, .no]) (i := 2) (Γ' := fun found412 (s : Unit) => [.im (pv K base_), .im (pv K many), .im (pv K found412), .no]) (em_pure fun _ => (ep_int (K := K))) (fun _ => rfl) fun _ _ => rfl) fun found412 => (rt_seq (rp_for (ΓL := fun (t413 : Int) (s : Unit) => [.im (pv K base_), .im (pv K many), .im (pv K t413), .no]) (Γx := fun (a414 : Int) (t413 : Int) (s : Unit) => [.im (pv K base_), .im (pv K many), .im (pv K t413), .im (pv K a414)]) (im_rng1 fun _ => (ap_cons (ep_var rfl) ap_nil)) (fun s => (.cons (.rfl _) (.cons (.rfl _) (.cons (.rfl _) (.cons (.rfl _) .nil))))) (fun a414 t413 s => (gt_name (Γ := [.im (pv K base_), .im (pv K many), .im (pv K t413), .no]) (i := 3) (Γ' := [.im (pv K base_), .im (pv K many), .im (pv K t413), .im (pv K a414)]) rfl rfl)) fun a414 t413 => (rp_post (f := fun found415 => found415) (rp_asg (Γ := fun (s : Unit) => [.im (pv K base_), .im (pv K many), .im (pv K t413), .im (pv K a414)]) (i := 2) (Γ' := fun found415 (s : Unit) => [.im (pv K base_), .im (pv K many), .im (pv K found415), .im (pv K a414)]) (em_opC2 (fun _ => (ep_var rfl)) (fun _ => (ep_var rfl)) fun h => o_mulW h) (fun _ => rfl) fun _ _ => rfl) fun found415 s => (.cons (.rfl _) (.cons (.rfl _) (.cons (.rfl _) (.cons (.no _) .nil)))))) fun t416 => (rt_ret (em_pure fun _ => (ep_var rfl)) fun s => (.cons (.no _) (.cons (.no _) (.cons (.no _) (.cons (.rfl _) .nil)))))))))) h⟩
theorem ok__law_power {f : Addr} {fd : FuncData} (F : FnP K "_law_power" (top 70) f fd) (hg : mg "_law_power" = some (.ref f)) (b_range : mg "range" = none) : Cal P w K mg base 1 "_law_power" ["base", "many"] (sp__law_power K) := ⟨f, fd, fo__law_power F b_range, hg, F.kp, F.bindsN fun _ _ _ _ _ _ us hl => match us, hl with | [_, _], _ => rfl⟩
def m__law_choose (many : Int) (few : Int) : Mn Unit Int :=
  (mb (mp ((1 : Int) : Int)) fun found417 =>
  (mb (mb (mc (b62 few) (rng 0 few.toNat)) fun xs => forP xs found417 fun a419 (t418 : Int) =>
    (mb (mb (mc (mulOk t418 (many - a419)) (t418 * (many - a419))) fun x_420 => mc (divOk (a419 + (1 : Int))) (x_420 / (a419 + (1 : Int)))) fun found422 => mp found422)) fun t423 =>
  (mp t423)))
abbrev sp__law_choose (K : PySem.W.Frag) : Sp := Prom (rIm K) (S := Unit) (fun i : Int × Int => [.im (pv K i.1), .im (pv K i.2)]) fun i => m__law_choose i.1 i.2
theorem len__law_choose : ∀ vs H Q E, sp__law_choose K vs H Q E → vs.length = 2 := prom_len (S := Unit) (Ret := (rIm K)) (As := fun i : Int × Int => [.im (pv K i.1), .im (pv K i.2)]) (m := fun i => m__law_choose i.1 i.2) fun _ => rfl
theorem sc__law_choose : FnScope ["many", "few", "found", "k"] ["many", "few"] (defScope (top 71)) := ⟨rfl, rfl, rfl, by decide +kernel, rfl, by decide +kernel, by decide +kernel⟩
theorem fo__law_choose {f : Addr} {fd : FuncData} (F : FnP K "_law_choose" (top 71) f fd) (b_range : mg "range" = none) : FnOk P w K mg base CX0 1 f fd ["many", "few"] (sp__law_choose K) := by
  refine F.ok sc__law_choose (len__law_choose (K := K)) (fun cdv A outer s H vs Q E hr h => ?_)
  have hl : vs.length = 2 := len__law_choose (K := K) vs H Q E h
  match vs, hl, h with
  | [v0, v1], _, h => exact ⟨_, PSs.nox ((pss_cons (ps_set (i := 2) sc__law_choose.nd rfl (Or.inl rfl) pe_int) (pss_cons (ps_for PassesOwn.never rfl (pi_range1 rfl b_range (pa_cons (L2.pv 1) pa_nil)) (pg_name (i := 3) sc__law_choose.nd rfl (Or.inl rfl)) (pss_one (ps_set (i := 2) sc__law_choose.nd rfl (Or.inl rfl) (pe_op op_fdivW (pe_op op_mulW (L2.pv 2) (pe_op op_sub (L2.pv 0) (L2.pv 3))) (pe_op op_add (L2.pv 3) pe_int))))) (pss_one (ps_ret (L2.pv 2)))))), prom_ok (n := 2) (S := Unit) (Ret := (rIm K)) (As := fun i : Int × Int => [.im (pv K i.1), .im (pv K i.2)]) (m := fun i => m__law_choose i.1 i.2) 2 (fun _ => rfl) rfl (fun (many, few) => (show RN (rIm K) _ (fun (s : Unit) => [.im (pv K many), .im (pv K few), .no, .no]) (m__law_choose many few) (fun (s : Unit) => [.no, .no, .no, .no]) from (rn_of (rt_seq (rp_asg (Γ := fun (s : Unit) => [.im (pv K many), .im (pv K few), .no, .no]) (i := 2) (Γ' := fun found417 (s : Unit) => [.im (pv K many), .im (pv K few), .im (pv K found417), .no]) (em_pure fun _ => (ep_int (K := K))) (fun _ => rfl) fun _ _ => rfl) fun found417 => (rt_seq (rp_for (ΓL := fun (t418 : Int) (s : Unit) => [.im (pv K many), .im (pv K few), .im (pv K t418), .no]) (Γx := fun (a419 : Int) (t418 : Int) (s : Unit) => [.im (pv K many), .im (pv K few), .im (pv K t418), .im (pv K a419)]) (im_rng1 fun _ => (ap_cons (ep_var rfl) ap_nil)) (fun s => (.cons (.rfl _) (.cons (.rfl _) (.cons (.rfl _) (.cons (.rfl _) .nil))))) (fun a419 t418 s => (gt_name (Γ := [.im (pv K many), .im (pv K few), .im (pv K t418), .no]) (i := 3) (Γ' := [.im (pv K many), .im (pv K few), .im (pv K t418), .im (pv K a419)]) rfl rfl)) fun a419 t418 => (rp_post (f := fun found422 => found422) (rp_asg (Γ := fun (s : Unit) => [.im (pv K many), .im (pv K few), .im (pv K t418), .im (pv K a419)]) (i := 2) (Γ' := fun found422 (s : Unit) => [.im (pv K many), .im (pv K few), .im (pv K found422), .im (pv K a419)]) (em_oprC (g := fun (u : Int) (v : Int) => (u / v)) (c := fun (u : Int) (v : Int) => divOk v) (em_opC2 (fun _ => (ep_var rfl)) (fun _ => (ep_op (ep_var rfl) (ep_var rfl) o_sub)) fun h => o_mulW h) (fun _ => (ep_op (ep_var rfl) (ep_int (K := K)) o_add)) fun _ h => (o_divW h)) (fun _ => rfl) fun _ _ => rfl) fun found422 s => (.cons (.rfl _) (.cons (.rfl _) (.cons (.rfl _) (.cons (.no _) .nil)))))) fun t423 => (rt_ret (em_pure fun _ => (ep_var rfl)) fun s => (.cons (.no _) (.cons (.no _) (.cons (.no _) (.cons (.rfl _) .nil)))))))))) h⟩
theorem ok__law_choose {f : Addr} {fd : FuncData} (F : FnP K "_law_choose" (top 71) f fd) (hg : mg "_law_choose" = some (.ref f)) (b_range : mg "range" = none) : Cal P w K mg base 1 "_law_choose" ["many", "few"] (sp__law_choose K) := ⟨f, fd, fo__law_choose F b_range, hg, F.kp, F.bindsN fun _ _ _ _ _ _ us hl => match us, hl with | [_, _], _ => rfl⟩
def m__law_lot (records : Int) (few : Int) (number : Int) : Mn Unit (List Int) :=
  (mb (mb (mp ([] : (List Int))) fun x_425 => mb (mp ()) fun z426 => mp (x_425, z426)) fun z424 =>
  (mb (mb (mc (b62 few) (rng 0 few.toNat)) fun xs => forP xs (z424.1, (0 : Int), number) fun a428 (t427 : (List Int) × Int × Int) =>
    (mb (mb (mc (b62 t427.2.1 && b62 records) (rng t427.2.1 (records - t427.2.1).toNat)) fun xs => forP xs (t427.1, t427.2.2) fun a430 (t429 : (List Int) × Int) =>
    (mb (mu (mu (m__law_choose (((records - a430) - (1 : Int)) : Int) (((few - ((t429.1.length : Nat) : Int)) - (1 : Int)) : Int)))) fun many431 =>
    (mb (mb (mp (decide (((t429.1.length : Nat) : Int) = a428))) fun b => mi b
    (mb (mb (mp (decide (t429.2 < many431))) fun b => mi b
    (mb (mb (mp a430) fun x_435 => mc (lenOk t429.1.length) (t429.1 ++ [x_435])) fun found434 => mp (found434, t429.2))
    (mb (mp ((t429.2 - many431) : Int)) fun left436 => mp (t429.1, left436))) fun t433 => mp (t433.1, t433.2))
    (mp (t429.1, t429.2))) fun t432 => mp (t432.1, t432.2)))) fun t437 =>
    (mb (mu (mb (mo (atI t437.1 (-(1 : Int)))) fun x_440 => mp (x_440 + (1 : Int)))) fun least442 => mp (t437.1, least442, t437.2)))) fun t443 =>
  (mp t443.1)))
abbrev sp__law_lot (K : PySem.W.Frag) : Sp := Prom (rIm K) (S := Unit) (fun i : Int × Int × Int => [.im (pv K i.1), .im (pv K i.2.1), .im (pv K i.2.2)]) fun i => m__law_lot i.1 i.2.1 i.2.2
theorem len__law_lot : ∀ vs H Q E, sp__law_lot K vs H Q E → vs.length = 3 := prom_len (S := Unit) (Ret := (rIm K)) (As := fun i : Int × Int × Int => [.im (pv K i.1), .im (pv K i.2.1), .im (pv K i.2.2)]) (m := fun i => m__law_lot i.1 i.2.1 i.2.2) fun _ => rfl
theorem sc__law_lot : FnScope ["records", "few", "number", "found", "least", "left", "turn", "record", "many"] ["records", "few", "number"] (defScope (top 72)) := ⟨rfl, rfl, rfl, by decide +kernel, rfl, by decide +kernel, by decide +kernel⟩
theorem fo__law_lot {f : Addr} {fd : FuncData} (F : FnP K "_law_lot" (top 72) f fd) (b_len : mg "len" = none) (b_range : mg "range" = none) (C__law_choose : Cal P w K mg base 1 "_law_choose" ["many", "few"] (sp__law_choose K)) : FnOk P w K mg base CX0 2 f fd ["records", "few", "number"] (sp__law_lot K) := by
  obtain ⟨f__law_choose, fd__law_choose, G__law_choose, g__law_choose, kp__law_choose, bi__law_choose⟩ := C__law_choose.ex
  refine F.ok sc__law_lot (len__law_lot (K := K)) (fun cdv A outer s H vs Q E hr h => ?_)
  have hl : vs.length = 3 := len__law_lot (K := K) vs H Q E h
  match vs, hl, h with
  | [v0, v1, v2], _, h => exact ⟨_, PSs.nox ((pss_cons (ps_par3 (i := 3) (j := 4) (l := 5) rfl sc__law_lot.nd rfl rfl rfl (by decide) (by decide) (by decide) rfl rfl rfl (pa_cons (pe_lst pa_nil) (pa_cons pe_int (pa_cons (L2.pv 2) pa_nil))) rfl) (pss_cons (ps_for PassesOwn.never rfl (pi_range1 rfl b_range (pa_cons (L2.pv 1) pa_nil)) (pg_name (i := 6) sc__law_lot.nd rfl (Or.inl rfl)) (pss_cons (ps_for PassesOwn.never rfl (pi_range2 rfl b_range (pa_cons (L2.pv 4) (pa_cons (L2.pv 0) pa_nil))) (pg_name (i := 7) sc__law_lot.nd rfl (Or.inl rfl)) (pss_cons (ps_set (i := 8) sc__law_lot.nd rfl (Or.inl rfl) (pe_call G__law_choose (hr.mono (Nat.le_of_ble_eq_true rfl)) rfl g__law_choose kp__law_choose bi__law_choose .nil pass0 (pa_cons (pe_op op_sub (pe_op op_sub (L2.pv 0) (L2.pv 7)) pe_int) (pa_cons (pe_op op_sub (pe_op op_sub (L2.pv 1) (pe_callB call_len_seq rfl b_len bt_len (pa_cons (L2.pv 3) pa_nil))) pe_int) pa_nil)))) (pss_one (ps_if (pt_cmpR op_eq (pe_callB call_len_seq rfl b_len bt_len (pa_cons (L2.pv 3) pa_nil)) (L2.pv 6) (nomark _)) (pss_one (ps_if (pt_cmpR op_lt (L2.pv 5) (L2.pv 8) (nomark _)) (pss_one (ps_expr (pe_bm PySem.F.plainAttrs_list PySem.F.slot_list_append PySem.F.type_list_append mt_append (L2.pv 3) (pa_cons (L2.pv 7) pa_nil)))) (pss_one (ps_set (i := 5) sc__law_lot.nd rfl (Or.inl rfl) (pe_op op_sub (L2.pv 5) (L2.pv 8)))))) pss_nil)))) (pss_one (ps_set (i := 4) sc__law_lot.nd rfl (Or.inl rfl) (pe_op op_add (pe_ix ix_list (L2.pv 3) (pe_un un_neg pe_int) (fun _ _ => rfl)) pe_int))))) (pss_one (ps_ret (L2.pv 3)))))), prom_ok (n := 3) (S := Unit) (Ret := (rIm K)) (As := fun i : Int × Int × Int => [.im (pv K i.1), .im (pv K i.2.1), .im (pv K i.2.2)]) (m := fun i => m__law_lot i.1 i.2.1 i.2.2) 6 (fun _ => rfl) rfl (fun (records, few, number) => (show RN (rIm K) _ (fun (s : Unit) => [.im (pv K records), .im (pv K few), .im (pv K number), .no, .no, .no, .no, .no, .no]) (m__law_lot records few number) (fun (s : Unit) => [.no, .no, .no, .no, .no, .no, .no, .no, .no]) from (rn_of (rt_seq (rp_asg3 (Γ' := fun z424 (s : Unit) => [.im (pv K records), .im (pv K few), .im (pv K number), .ow (ol K z424.1), .im (pv K ((0 : Int) : Int)), .im (pv K number), .no, .no, .no]) (ao_o (eo_lst (xs := ([] : (List Int))) (fun _ => ap_nil)) (ao_p (fun _ => (ep_int (K := K))) (ao_p (fun _ => (ep_var rfl)) ao_nil))) (fun _ => asg_ok rfl) (fun _ => rfl) (fun _ => rfl) fun _ _ => rfl) fun z424 => (rt_seq (rp_for (ΓL := fun (t427 : (List Int) × Int × Int) (s : Unit) => [.im (pv K records), .im (pv K few), .im (pv K number), .ow (ol K t427.1), .im (pv K t427.2.1), .im (pv K t427.2.2), .no, .no, .no]) (Γx := fun (a428 : Int) (t427 : (List Int) × Int × Int) (s : Unit) => [.im (pv K records), .im (pv K few), .im (pv K number), .ow (ol K t427.1), .im (pv K t427.2.1), .im (pv K t427.2.2), .im (pv K a428), .no, .no]) (im_rng1 fun _ => (ap_cons (ep_var rfl) ap_nil)) (fun s => (.cons (.rfl _) (.cons (.rfl _) (.cons (.rfl _) (.cons (.rfl _) (.cons (.rfl _) (.cons (.rfl _) (.cons (.rfl _) (.cons (.rfl _) (.cons (.rfl _) .nil)))))))))) (fun a428 t427 s => (gt_name (Γ := [.im (pv K records), .im (pv K few), .im (pv K number), .ow (ol K t427.1), .im (pv K t427.2.1), .im (pv K t427.2.2), .no, .no, .no]) (i := 6) (Γ' := [.im (pv K records), .im (pv K few), .im (pv K number), .ow (ol K t427.1), .im (pv K t427.2.1), .im (pv K t427.2.2), .im (pv K a428), .no, .no]) rfl rfl)) fun a428 t427 => (rp_seq (rp_for (ΓL := fun (t429 : (List Int) × Int) (s : Unit) => [.im (pv K records), .im (pv K few), .im (pv K number), .ow (ol K t429.1), .im (pv K t427.2.1), .im (pv K t429.2), .im (pv K a428), .no, .no]) (Γx := fun (a430 : Int) (t429 : (List Int) × Int) (s : Unit) => [.im (pv K records), .im (pv K few), .im (pv K number), .ow (ol K t429.1), .im (pv K t427.2.1), .im (pv K t429.2), .im (pv K a428), .im (pv K a430), .no]) (im_rng2 fun _ => (ap_cons (ep_var rfl) (ap_cons (ep_var rfl) ap_nil))) (fun s => (.cons (.rfl _) (.cons (.rfl _) (.cons (.rfl _) (.cons (.rfl _) (.cons (.rfl _) (.cons (.rfl _) (.cons (.rfl _) (.cons (.rfl _) (.cons (.rfl _) .nil)))))))))) (fun a430 t429 s => (gt_name (Γ := [.im (pv K records), .im (pv K few), .im (pv K number), .ow (ol K t429.1), .im (pv K t427.2.1), .im (pv K t429.2), .im (pv K a428), .no, .no]) (i := 7) (Γ' := [.im (pv K records), .im (pv K few), .im (pv K number), .ow (ol K t429.1), .im (pv K t427.2.1), .im (pv K t429.2), .im (pv K a428), .im (pv K a430), .no]) rfl rfl)) fun a430 t429 => (rp_seq (rp_asg (Γ := fun (s : Unit) => [.im (pv K records), .im (pv K few), .im (pv K number), .ow (ol K t429.1), .im (pv K t427.2.1), .im (pv K t429.2), .im (pv K a428), .im (pv K a430), .no]) (i := 8) (Γ' := fun many431 (s : Unit) => [.im (pv K records), .im (pv K few), .im (pv K number), .ow (ol K t429.1), .im (pv K t427.2.1), .im (pv K t429.2), .im (pv K a428), .im (pv K a430), .im (pv K many431)]) (em_bor (Γ0 := [.im (pv K records), .im (pv K few), .im (pv K number), .im (pv K t429.1), .im (pv K t427.2.1), .im (pv K t429.2), .im (pv K a428), .im (pv K a430), .no]) (fun _ => (.cons (.rfl _) (.cons (.rfl _) (.cons (.rfl _) (.cons (.fr fr_ol) (.cons (.rfl _) (.cons (.rfl _) (.cons (.rfl _) (.cons (.rfl _) (.cons (.rfl _) .nil)))))))))) rfl (em_of_eo (eo_call0 (i := ((((records - a430) - (1 : Int)) : Int), (((few - ((t429.1.length : Nat) : Int)) - (1 : Int)) : Int))) (ps := [pv K (((records - a430) - (1 : Int)) : Int), pv K (((few - ((t429.1.length : Nat) : Int)) - (1 : Int)) : Int)]) (fun _ => (ap_cons (ep_op (ep_op (ep_var rfl) (ep_var rfl) o_sub) (ep_int (K := K)) o_sub) (ap_cons (ep_op (ep_op (ep_var rfl) (ep_cb (ap_cons (ep_var rfl) ap_nil) c_lenL) o_sub) (ep_int (K := K)) o_sub) ap_nil))) rfl))) (fun _ => rfl) fun _ _ => rfl) fun many431 => (rp_post (f := fun t432 => (t432.1, t432.2)) (rp_if (Γ' := fun t432 (s : Unit) => [.im (pv K records), .im (pv K few), .im (pv K number), .ow (ol K t432.1), .im (pv K t427.2.1), .im (pv K t432.2), .im (pv K a428), .im (pv K a430), .im (pv K many431)]) (tm_pure fun _ => (tp_bor (Γ0 := [.im (pv K records), .im (pv K few), .im (pv K number), .im (pv K t429.1), .im (pv K t427.2.1), .im (pv K t429.2), .im (pv K a428), .im (pv K a430), .im (pv K many431)]) (.cons (.rfl _) (.cons (.rfl _) (.cons (.rfl _) (.cons (.fr fr_ol) (.cons (.rfl _) (.cons (.rfl _) (.cons (.rfl _) (.cons (.rfl _) (.cons (.rfl _) .nil))))))))) rfl (tp_test (ep_op (ep_cb (ap_cons (ep_var rfl) ap_nil) c_lenL) (ep_var rfl) o_eq)))) (rp_post (f := fun t433 => (t433.1, t433.2)) (rp_if (Γ' := fun t433 (s : Unit) => [.im (pv K records), .im (pv K few), .im (pv K number), .ow (ol K t433.1), .im (pv K t427.2.1), .im (pv K t433.2), .im (pv K a428), .im (pv K a430), .im (pv K many431)]) (tm_pure fun _ => (tp_test (ep_op (ep_var rfl) (ep_var rfl) o_lt))) (rp_post (f := fun found434 => (found434, t429.2)) (rp_app (Γ' := fun found434 (s : Unit) => [.im (pv K records), .im (pv K few), .im (pv K number), .ow (ol K found434), .im (pv K t427.2.1), .im (pv K t429.2), .im (pv K a428), .im (pv K a430), .im (pv K many431)]) (fun _ => rfl) (em_pure fun _ => (ep_var rfl)) fun _ _ => rfl) fun found434 s => (.cons (.rfl _) (.cons (.rfl _) (.cons (.rfl _) (.cons (.rfl _) (.cons (.rfl _) (.cons (.rfl _) (.cons (.rfl _) (.cons (.rfl _) (.cons (.rfl _) .nil)))))))))) (rp_post (f := fun left436 => (t429.1, left436)) (rp_asg (Γ := fun (s : Unit) => [.im (pv K records), .im (pv K few), .im (pv K number), .ow (ol K t429.1), .im (pv K t427.2.1), .im (pv K t429.2), .im (pv K a428), .im (pv K a430), .im (pv K many431)]) (i := 5) (Γ' := fun left436 (s : Unit) => [.im (pv K records), .im (pv K few), .im (pv K number), .ow (ol K t429.1), .im (pv K t427.2.1), .im (pv K left436), .im (pv K a428), .im (pv K a430), .im (pv K many431)]) (em_pure fun _ => (ep_op (ep_var rfl) (ep_var rfl) o_sub)) (fun _ => rfl) fun _ _ => rfl) fun left436 s => (.cons (.rfl _) (.cons (.rfl _) (.cons (.rfl _) (.cons (.rfl _) (.cons (.rfl _) (.cons (.rfl _) (.cons (.rfl _) (.cons (.rfl _) (.cons (.rfl _) .nil))))))))))) fun t433 s => (.cons (.rfl _) (.cons (.rfl _) (.cons (.rfl _) (.cons (.rfl _) (.cons (.rfl _) (.cons (.rfl _) (.cons (.rfl _) (.cons (.rfl _) (.cons (.rfl _) .nil)))))))))) (rp_next (x := (t429.1, t429.2)) fun s => (.cons (.rfl _) (.cons (.rfl _) (.cons (.rfl _) (.cons (.rfl _) (.cons (.rfl _) (.cons (.rfl _) (.cons (.rfl _) (.cons (.rfl _) (.cons (.rfl _) .nil))))))))))) fun t432 s => (.cons (.rfl _) (.cons (.rfl _) (.cons (.rfl _) (.cons (.rfl _) (.cons (.rfl _) (.cons (.rfl _) (.cons (.rfl _) (.cons (.no _) (.cons (.no _) .nil)))))))))))) fun t437 => (rp_post (f := fun least442 => (t437.1, least442, t437.2)) (rp_asg (Γ := fun (s : Unit) => [.im (pv K records), .im (pv K few), .im (pv K number), .ow (ol K t437.1), .im (pv K t427.2.1), .im (pv K t437.2), .im (pv K a428), .no, .no]) (i := 4) (Γ' := fun least442 (s : Unit) => [.im (pv K records), .im (pv K few), .im (pv K number), .ow (ol K t437.1), .im (pv K least442), .im (pv K t437.2), .im (pv K a428), .no, .no]) (em_bor (Γ0 := [.im (pv K records), .im (pv K few), .im (pv K number), .im (pv K t437.1), .im (pv K t427.2.1), .im (pv K t437.2), .im (pv K a428), .no, .no]) (fun _ => (.cons (.rfl _) (.cons (.rfl _) (.cons (.rfl _) (.cons (.fr fr_ol) (.cons (.rfl _) (.cons (.rfl _) (.cons (.rfl _) (.cons (.rfl _) (.cons (.rfl _) .nil)))))))))) rfl (em_opr (g := fun (u : Int) (v : Int) => (u + v)) (em_ixLp (fun _ => (ep_var rfl)) fun _ => (ep_un (ep_int (K := K)) o_neg)) (fun _ => (ep_int (K := K))) fun _ => o_add)) (fun _ => rfl) fun _ _ => rfl) fun least442 s => (.cons (.rfl _) (.cons (.rfl _) (.cons (.rfl _) (.cons (.rfl _) (.cons (.rfl _) (.cons (.rfl _) (.cons (.no _) (.cons (.rfl _) (.cons (.rfl _) .nil)))))))))))) fun t443 => (rt_pre (fun s => (.cons (.rfl _) (.cons (.rfl _) (.cons (.rfl _) (.cons (.fr fr_ol) (.cons (.rfl _) (.cons (.rfl _) (.cons (.rfl _) (.cons (.rfl _) (.cons (.rfl _) .nil)))))))))) (rt_ret (em_pure fun _ => (ep_var rfl)) fun s => (.cons (.no _) (.cons (.no _) (.cons (.no _) (.cons (.no _) (.cons (.no _) (.cons (.no _) (.cons (.rfl _) (.cons (.rfl _) (.cons (.rfl _) .nil)))))))))))))))) h⟩
theorem ok__law_lot {f : Addr} {fd : FuncData} (F : FnP K "_law_lot" (top 72) f fd) (hg : mg "_law_lot" = some (.ref f)) (b_len : mg "len" = none) (b_range : mg "range" = none) (C__law_choose : Cal P w K mg base 1 "_law_choose" ["many", "few"] (sp__law_choose K)) : Cal P w K mg base 2 "_law_lot" ["records", "few", "number"] (sp__law_lot K) := ⟨f, fd, fo__law_lot F b_len b_range C__law_choose, hg, F.kp, F.bindsN fun _ _ _ _ _ _ us hl => match us, hl with | [_, _, _], _ => rfl⟩
def m__law_sizes (disks : Int) (lost : Int) (records : Int) (few : Int) (contents : Int) : Mn Unit (T5 Int Int Int (Option Int) Int) :=
  (mb (mb (mu (m__law_choose records few)) fun x_445 => mb (mp ()) fun z446 => mp (x_445, z446)) fun z444 =>
  (mb (mp ((none : (Option Int)) : (Option Int))) fun prime447 =>
  (mb (mb (mc (b62 ((2 : Int) : Int) && b62 contents) (rng ((2 : Int) : Int) (contents - ((2 : Int) : Int)).toNat)) fun xs => forP xs prime447 fun a449 (t448 : (Option Int)) =>
    (mb (mb (mb (mb (mc (b62 ((2 : Int) : Int) && b62 a449) (rng ((2 : Int) : Int) (a449 - ((2 : Int) : Int)).toNat)) fun xs => cmP xs (fun (a450 : Int) => (mb (mc (modOk a450) (a449 % a450)) fun x_451 => mp (decide (x_451 = (0 : Int))))) fun a450 => (mp a450)) fun x_453 => mp (decide (x_453 = ([] : (List Int))))) fun b => mi b
    (mb (mp ((some a449) : (Option Int))) fun prime456 => mp prime456)
    (mp t448)) fun t455 => mp t455)) fun t457 =>
  (mb (mp ((cond (decide (z444.1 = (1 : Int))) (0 : Int) (cond (decide (z444.1 < contents)) (1 : Int) (2 : Int))) : Int)) fun symbols458 =>
  (mb (mb (mc (b62 ((20 : Int) : Int)) (rng 0 ((20 : Int) : Int).toNat)) fun xs => forP xs symbols458 fun a460 (t459 : Int) =>
    (mb (mb (mb (mc (divOk (disks - lost)) ((t459 + (disks - lost)) / (disks - lost))) fun y462 => mc (mulOk lost y462) (lost * y462)) fun y464 => mp ((t459 + (1 : Int)) + y464)) fun heads465 =>
    (mb (mb (mb (mp (decide ((1 : Int) < t459))) fun b476 => mi b476 (mb (mb (mo t457) fun x_466 => mp (decide (x_466 < heads465))) fun b475 => mi b475 (mp true) (mb (mb (mb (mo t457) fun x_470 => mb (mb (mp t459) fun x_468 => mb (mp ()) fun z469 => mp (x_468, z469)) fun z471 => mp (x_470, z471)) fun z472 => (mu (m__law_power z472.1 z472.2.1))) fun x_473 => mp (decide (x_473 < z444.1)))) (mp false)) fun b => mi b
    (mb (mp ((t459 + (1 : Int)) : Int)) fun symbols478 => mp symbols478)
    (mp t459)) fun t477 => mp t477))) fun t479 =>
  (mb (mb (mb (mc (divOk (disks - lost)) ((t479 + (disks - lost)) / (disks - lost))) fun y481 => mc (mulOk lost y481) (lost * y481)) fun y483 => mp ((t479 + (1 : Int)) + y483)) fun heads484 =>
  (mp ((T5.mk (disks - lost) z444.1 t479 (cond (decide ((1 : Int) < t479)) t457 (none : (Option Int))) heads484) : (T5 Int Int Int (Option Int) Int)))))))))
abbrev sp__law_sizes (K : PySem.W.Frag) : Sp := Prom (rIm K) (S := Unit) (fun i : Int × Int × Int × Int × Int => [.im (pv K i.1), .im (pv K i.2.1), .im (pv K i.2.2.1), .im (pv K i.2.2.2.1), .im (pv K i.2.2.2.2)]) fun i => m__law_sizes i.1 i.2.1 i.2.2.1 i.2.2.2.1 i.2.2.2.2
theorem len__law_sizes : ∀ vs H Q E, sp__law_sizes K vs H Q E → vs.length = 5 := prom_len (S := Unit) (Ret := (rIm K)) (As := fun i : Int × Int × Int × Int × Int => [.im (pv K i.1), .im (pv K i.2.1), .im (pv K i.2.2.1), .im (pv K i.2.2.2.1), .im (pv K i.2.2.2.2)]) (m := fun i => m__law_sizes i.1 i.2.1 i.2.2.1 i.2.2.2.1 i.2.2.2.2) fun _ => rfl
theorem sc__law_sizes : FnScope ["disks", "lost", "records", "few", "contents", "need", "lots", "prime", "number", "symbols", "turn", "heads", "k"] ["disks", "lost", "records", "few", "contents"] (defScope (top 73)) := ⟨rfl, rfl, rfl, by decide +kernel, rfl, by decide +kernel, by decide +kernel⟩
theorem fo__law_sizes {f : Addr} {fd : FuncData} (F : FnP K "_law_sizes" (top 73) f fd) (b_range : mg "range" = none) (C__law_choose : Cal P w K mg base 1 "_law_choose" ["many", "few"] (sp__law_choose K)) (C__law_power : Cal P w K mg base 1 "_law_power" ["base", "many"] (sp__law_power K)) : FnOk P w K mg base CX0 2 f fd ["disks", "lost", "records", "few", "contents"] (sp__law_sizes K) := by
  obtain ⟨f__law_choose, fd__law_choose, G__law_choose, g__law_choose, kp__law_choose, bi__law_choose⟩ := C__law_choose.ex
  obtain ⟨f__law_power, fd__law_power, G__law_power, g__law_power, kp__law_power, bi__law_power⟩ := C__law_power.ex
  refine F.ok sc__law_sizes (len__law_sizes (K := K)) (fun cdv A outer s H vs Q E hr h => ?_)
  have hl : vs.length = 5 := len__law_sizes (K := K) vs H Q E h
  match vs, hl, h with
  | [v0, v1, v2, v3, v4], _, h => exact ⟨_, PSs.nox ((pss_cons (ps_par (i := 5) (j := 6) rfl sc__law_sizes.nd rfl rfl (by decide) rfl rfl (pa_cons (pe_op op_sub (L2.pv 0) (L2.pv 1)) (pa_cons (pe_call G__law_choose (hr.mono (Nat.le_of_ble_eq_true rfl)) rfl g__law_choose kp__law_choose bi__law_choose .nil pass0 (pa_cons (L2.pv 2) (pa_cons (L2.pv 3) pa_nil))) pa_nil)) rfl) (pss_cons (ps_set (i := 7) sc__law_sizes.nd rfl (Or.inl rfl) pe_non) (pss_cons (ps_for PassesOwn.never rfl (pi_range2 rfl b_range (pa_cons pe_int (pa_cons (L2.pv 4) pa_nil))) (pg_name (i := 8) sc__law_sizes.nd rfl (Or.inr rfl)) (pss_one (ps_if (pt_cmpR (op_eqD (hu64 hr)) (pe_lc (own := [("k", 12)]) rfl sc__law_sizes.nd (pi_range2 rfl b_range (pa_cons pe_int (pa_cons (L2.pv 8) pa_nil))) (blkOk_by (own := [("k", 12)]) (N := ["disks", "lost", "records", "few", "contents", "need", "lots", "prime", "number", "symbols", "turn", "heads", "k"]) (sc := defScope (top 73)) (by decide +kernel)) (fun _ _ _ _ _ => (pg_name (i := 12) sc__law_sizes.nd rfl (Or.inl rfl))) (fun _ _ _ _ _ => (pts_one (pt_cmpR op_eq (pe_op op_mod (L2.pv 8) (L2.pv 12)) pe_int (nomark _)))) (fun _ _ _ _ _ => (L2.pv 12))) (pe_lst pa_nil) (nomark _)) (pss_one (ps_set (i := 7) sc__law_sizes.nd rfl (Or.inl rfl) (L2.pv 8))) pss_nil))) (pss_cons (ps_set (i := 9) sc__law_sizes.nd rfl (Or.inl rfl) (pe_ifExp (pt_cmpR op_eq (L2.pv 6) pe_int (nomark _)) pe_int (pe_ifExp (pt_cmpR op_lt (L2.pv 6) (L2.pv 4) (nomark _)) pe_int pe_int))) (pss_cons (ps_for PassesOwn.never rfl (pi_range1 rfl b_range (pa_cons pe_int pa_nil)) (pg_name (i := 10) sc__law_sizes.nd rfl (Or.inl rfl)) (pss_cons (ps_set (i := 11) sc__law_sizes.nd rfl (Or.inl rfl) (pe_op op_add (pe_op op_add (L2.pv 9) pe_int) (pe_op op_mulW (L2.pv 1) (pe_op op_fdivW (pe_op op_add (L2.pv 9) (L2.pv 5)) (L2.pv 5))))) (pss_one (ps_if (PW.pt (pw_and (pt_cmpR op_gt (L2.pv 9) pe_int (nomark _)) (pw_and1 (PW.pt (pw_or (pt_cmpR op_lt (L2.pv 7) (L2.pv 11) (nomark _)) (pw_or1 (pt_cmpR op_lt (pe_call G__law_power (hr.mono (Nat.le_of_ble_eq_true rfl)) rfl g__law_power kp__law_power bi__law_power .nil pass0 (pa_cons (L2.pv 7) (pa_cons (L2.pv 9) pa_nil))) (L2.pv 6) (nomark _)))))))) (pss_one (ps_set (i := 9) sc__law_sizes.nd rfl (Or.inl rfl) (pe_op op_add (L2.pv 9) pe_int))) pss_nil)))) (pss_cons (ps_set (i := 11) sc__law_sizes.nd rfl (Or.inl rfl) (pe_op op_add (pe_op op_add (L2.pv 9) pe_int) (pe_op op_mulW (L2.pv 1) (pe_op op_fdivW (pe_op op_add (L2.pv 9) (L2.pv 5)) (L2.pv 5))))) (pss_one (ps_ret (pe_tup (pa_cons (L2.pv 5) (pa_cons (L2.pv 6) (pa_cons (L2.pv 9) (pa_cons (pe_ifExp (pt_cmpR op_gt (L2.pv 9) pe_int (nomark _)) (L2.pv 7) pe_non) (pa_cons (L2.pv 11) pa_nil))))))))))))))), prom_ok (n := 5) (S := Unit) (Ret := (rIm K)) (As := fun i : Int × Int × Int × Int × Int => [.im (pv K i.1), .im (pv K i.2.1), .im (pv K i.2.2.1), .im (pv K i.2.2.2.1), .im (pv K i.2.2.2.2)]) (m := fun i => m__law_sizes i.1 i.2.1 i.2.2.1 i.2.2.2.1 i.2.2.2.2) 8 (fun _ => rfl) rfl (fun (disks, lost, records, few, contents) => (show RN (rIm K) _ (fun (s : Unit) => [.im (pv K disks), .im (pv K lost), .im (pv K records), .im (pv K few), .im (pv K contents), .no, .no, .no, .no, .no, .no, .no, .no]) (m__law_sizes disks lost records few contents) (fun (s : Unit) => [.no, .no, .no, .no, .no, .no, .no, .no, .no, .no, .no, .no, .no]) from (rn_of (rt_seq (rp_asg2 (Γ' := fun z444 (s : Unit) => [.im (pv K disks), .im (pv K lost), .im (pv K records), .im (pv K few), .im (pv K contents), .im (pv K ((disks - lost) : Int)), .im (pv K z444.1), .no, .no, .no, .no, .no, .no]) (ao_p (fun _ => (ep_op (ep_var rfl) (ep_var rfl) o_sub)) (ao_m (em_of_eo (eo_call0 (i := (records, few)) (ps := [pv K records, pv K few]) (fun _ => (ap_cons (ep_var rfl) (ap_cons (ep_var rfl) ap_nil))) rfl)) ao_nil)) (fun _ => asg_ok rfl) (fun _ => rfl) (fun _ => rfl) fun _ _ => rfl) fun z444 => (rt_seq (rp_asg (Γ := fun (s : Unit) => [.im (pv K disks), .im (pv K lost), .im (pv K records), .im (pv K few), .im (pv K contents), .im (pv K ((disks - lost) : Int)), .im (pv K z444.1), .no, .no, .no, .no, .no, .no]) (i := 7) (Γ' := fun prime447 (s : Unit) => [.im (pv K disks), .im (pv K lost), .im (pv K records), .im (pv K few), .im (pv K contents), .im (pv K ((disks - lost) : Int)), .im (pv K z444.1), .im (pv K prime447), .no, .no, .no, .no, .no]) (em_pure fun _ => ep_nonO) (fun _ => rfl) fun _ _ => rfl) fun prime447 => (rt_seq (rp_for (ΓL := fun (t448 : (Option Int)) (s : Unit) => [.im (pv K disks), .im (pv K lost), .im (pv K records), .im (pv K few), .im (pv K contents), .im (pv K ((disks - lost) : Int)), .im (pv K z444.1), .im (pv K t448), .no, .no, .no, .no, .no]) (Γx := fun (a449 : Int) (t448 : (Option Int)) (s : Unit) => [.im (pv K disks), .im (pv K lost), .im (pv K records), .im (pv K few), .im (pv K contents), .im (pv K ((disks - lost) : Int)), .im (pv K z444.1), .im (pv K t448), .im (pv K a449), .no, .no, .no, .no]) (im_rng2 fun _ => (ap_cons (ep_int (K := K)) (ap_cons (ep_var rfl) ap_nil))) (fun s => (.cons (.rfl _) (.cons (.rfl _) (.cons (.rfl _) (.cons (.rfl _) (.cons (.rfl _) (.cons (.rfl _) (.cons (.rfl _) (.cons (.rfl _) (.cons (.rfl _) (.cons (.rfl _) (.cons (.rfl _) (.cons (.rfl _) (.cons (.rfl _) .nil)))))))))))))) (fun a449 t448 s => (gt_name (Γ := [.im (pv K disks), .im (pv K lost), .im (pv K records), .im (pv K few), .im (pv K contents), .im (pv K ((disks - lost) : Int)), .im (pv K z444.1), .im (pv K t448), .no, .no, .no, .no, .no]) (i := 8) (Γ' := [.im (pv K disks), .im (pv K lost), .im (pv K records), .im (pv K few), .im (pv K contents), .im (pv K ((disks - lost) : Int)), .im (pv K z444.1), .im (pv K t448), .im (pv K a449), .no, .no, .no, .no]) rfl rfl)) fun a449 t448 => (rp_post (f := fun t455 => t455) (rp_if (Γ' := fun t455 (s : Unit) => [.im (pv K disks), .im (pv K lost), .im (pv K records), .im (pv K few), .im (pv K contents), .im (pv K ((disks - lost) : Int)), .im (pv K z444.1), .im (pv K t455), .im (pv K a449), .no, .no, .no, .no]) (tm_test (em_opr (g := fun (u : (List Int)) (v : (List Int)) => decide (u = v)) (em_lc (Γx := fun (a450 : Int) (s : Unit) => [.im (pv K disks), .im (pv K lost), .im (pv K records), .im (pv K few), .im (pv K contents), .im (pv K ((disks - lost) : Int)), .im (pv K z444.1), .im (pv K t448), .im (pv K a449), .no, .no, .no, .im (pv K a450)]) (js := [12]) (im_rng2 fun _ => (ap_cons (ep_int (K := K)) (ap_cons (ep_var rfl) ap_nil))) (fun _ => rfl) (fun a450 s => (gt_name (Γ := [.im (pv K disks), .im (pv K lost), .im (pv K records), .im (pv K few), .im (pv K contents), .im (pv K ((disks - lost) : Int)), .im (pv K z444.1), .im (pv K t448), .im (pv K a449), .no, .no, .no, .no]) (i := 12) (Γ' := [.im (pv K disks), .im (pv K lost), .im (pv K records), .im (pv K few), .im (pv K contents), .im (pv K ((disks - lost) : Int)), .im (pv K z444.1), .im (pv K t448), .im (pv K a449), .no, .no, .no, .im (pv K a450)]) rfl rfl)) rfl (fun a450 => (tm_test (em_opr (g := fun (u : Int) (v : Int) => decide (u = v)) (em_opC2 (fun _ => (ep_var rfl)) (fun _ => (ep_var rfl)) fun h => o_mod h) (fun _ => (ep_int (K := K))) fun _ => o_eq))) (fun a450 => (em_pure fun _ => (ep_var rfl))) fun a450 s => (.cons (.rfl _) (.cons (.rfl _) (.cons (.rfl _) (.cons (.rfl _) (.cons (.rfl _) (.cons (.rfl _) (.cons (.rfl _) (.cons (.rfl _) (.cons (.rfl _) (.cons (.rfl _) (.cons (.rfl _) (.cons (.rfl _) (.cons (.no _) .nil)))))))))))))) (fun _ => (ep_lst (xs := ([] : (List Int))) (hl := Nat.le_of_ble_eq_true rfl) ap_nil)) fun _ => (o_eqDt (Nat.le_of_ble_eq_true rfl)))) (rp_post (f := fun prime456 => prime456) (rp_asg (Γ := fun (s : Unit) => [.im (pv K disks), .im (pv K lost), .im (pv K records), .im (pv K few), .im (pv K contents), .im (pv K ((disks - lost) : Int)), .im (pv K z444.1), .im (pv K t448), .im (pv K a449), .no, .no, .no, .no]) (i := 7) (Γ' := fun prime456 (s : Unit) => [.im (pv K disks), .im (pv K lost), .im (pv K records), .im (pv K few), .im (pv K contents), .im (pv K ((disks - lost) : Int)), .im (pv K z444.1), .im (pv K prime456), .im (pv K a449), .no, .no, .no, .no]) (em_pure fun _ => (ep_some nn_int (ep_var rfl))) (fun _ => rfl) fun _ _ => rfl) fun prime456 s => (.cons (.rfl _) (.cons (.rfl _) (.cons (.rfl _) (.cons (.rfl _) (.cons (.rfl _) (.cons (.rfl _) (.cons (.rfl _) (.cons (.rfl _) (.cons (.rfl _) (.cons (.rfl _) (.cons (.rfl _) (.cons (.rfl _) (.cons (.rfl _) .nil)))))))))))))) (rp_next (x := t448) fun s => (.cons (.rfl _) (.cons (.rfl _) (.cons (.rfl _) (.cons (.rfl _) (.cons (.rfl _) (.cons (.rfl _) (.cons (.rfl _) (.cons (.rfl _) (.cons (.rfl _) (.cons (.rfl _) (.cons (.rfl _) (.cons (.rfl _) (.cons (.rfl _) .nil))))))))))))))) fun t455 s => (.cons (.rfl _) (.cons (.rfl _) (.cons (.rfl _) (.cons (.rfl _) (.cons (.rfl _) (.cons (.rfl _) (.cons (.rfl _) (.cons (.rfl _) (.cons (.no _) (.cons (.rfl _) (.cons (.rfl _) (.cons (.rfl _) (.cons (.rfl _) .nil))))))))))))))) fun t457 => (rt_seq (rp_asg (Γ := fun (s : Unit) => [.im (pv K disks), .im (pv K lost), .im (pv K records), .im (pv K few), .im (pv K contents), .im (pv K ((disks - lost) : Int)), .im (pv K z444.1), .im (pv K t457), .no, .no, .no, .no, .no]) (i := 9) (Γ' := fun symbols458 (s : Unit) => [.im (pv K disks), .im (pv K lost), .im (pv K records), .im (pv K few), .im (pv K contents), .im (pv K ((disks - lost) : Int)), .im (pv K z444.1), .im (pv K t457), .no, .im (pv K symbols458), .no, .no, .no]) (em_pure fun _ => (ep_if (tp_test (ep_op (ep_var rfl) (ep_int (K := K)) o_eq)) (fun _ => (ep_int (K := K))) fun _ => (ep_if (tp_test (ep_op (ep_var rfl) (ep_var rfl) o_lt)) (fun _ => (ep_int (K := K))) fun _ => (ep_int (K := K))))) (fun _ => rfl) fun _ _ => rfl) fun symbols458 => (rt_seq (rp_for (ΓL := fun (t459 : Int) (s : Unit) => [.im (pv K disks), .im (pv K lost), .im (pv K records), .im (pv K few), .im (pv K contents), .im (pv K ((disks - lost) : Int)), .im (pv K z444.1), .im (pv K t457), .no, .im (pv K t459), .no, .no, .no]) (Γx := fun (a460 : Int) (t459 : Int) (s : Unit) => [.im (pv K disks), .im (pv K lost), .im (pv K records), .im (pv K few), .im (pv K contents), .im (pv K ((disks - lost) : Int)), .im (pv K z444.1), .im (pv K t457), .no, .im (pv K t459), .im (pv K a460), .no, .no]) (im_rng1 fun _ => (ap_cons (ep_int (K := K)) ap_nil)) (fun s => (.cons (.rfl _) (.cons (.rfl _) (.cons (.rfl _) (.cons (.rfl _) (.cons (.rfl _) (.cons (.rfl _) (.cons (.rfl _) (.cons (.rfl _) (.cons (.rfl _) (.cons (.rfl _) (.cons (.rfl _) (.cons (.rfl _) (.cons (.rfl _) .nil)))))))))))))) (fun a460 t459 s => (gt_name (Γ := [.im (pv K disks), .im (pv K lost), .im (pv K records), .im (pv K few), .im (pv K contents), .im (pv K ((disks - lost) : Int)), .im (pv K z444.1), .im (pv K t457), .no, .im (pv K t459), .no, .no, .no]) (i := 10) (Γ' := [.im (pv K disks), .im (pv K lost), .im (pv K records), .im (pv K few), .im (pv K contents), .im (pv K ((disks - lost) : Int)), .im (pv K z444.1), .im (pv K t457), .no, .im (pv K t459), .im (pv K a460), .no, .no]) rfl rfl)) fun a460 t459 => (rp_seq (rp_asg (Γ := fun (s : Unit) => [.im (pv K disks), .im (pv K lost), .im (pv K records), .im (pv K few), .im (pv K contents), .im (pv K ((disks - lost) : Int)), .im (pv K z444.1), .im (pv K t457), .no, .im (pv K t459), .im (pv K a460), .no, .no]) (i := 11) (Γ' := fun heads465 (s : Unit) => [.im (pv K disks), .im (pv K lost), .im (pv K records), .im (pv K few), .im (pv K contents), .im (pv K ((disks - lost) : Int)), .im (pv K z444.1), .im (pv K t457), .no, .im (pv K t459), .im (pv K a460), .im (pv K heads465), .no]) (em_opl (g := fun (u : Int) (v : Int) => (u + v)) (fun _ => (ep_op (ep_var rfl) (ep_int (K := K)) o_add)) (em_oplC (g := fun (u : Int) (v : Int) => (u * v)) (c := fun (u : Int) (v : Int) => mulOk u v) (fun _ => (ep_var rfl)) (em_opC2 (fun _ => (ep_op (ep_var rfl) (ep_var rfl) o_add)) (fun _ => (ep_var rfl)) fun h => o_divW h) fun _ h => (o_mulW h)) fun _ => o_add) (fun _ => rfl) fun _ _ => rfl) fun heads465 => (rp_post (f := fun t477 => t477) (rp_if (Γ' := fun t477 (s : Unit) => [.im (pv K disks), .im (pv K lost), .im (pv K records), .im (pv K few), .im (pv K contents), .im (pv K ((disks - lost) : Int)), .im (pv K z444.1), .im (pv K t457), .no, .im (pv K t477), .im (pv K a460), .im (pv K heads465), .no]) (tm_and (tm_pure fun _ => (tp_test (ep_op (ep_var rfl) (ep_int (K := K)) o_gt))) (tm_or (tm_test (em_opr (g := fun (u : Int) (v : Int) => decide (u < v)) (em_unopt fun _ => (ep_var rfl)) (fun _ => (ep_var rfl)) fun _ => o_lt)) (tm_test (em_opr (g := fun (u : Int) (v : Int) => decide (u < v)) (em_of_eo (eo_call0M (f := fun (z472 : Int × Int × Unit) => (z472.1, z472.2.1)) (am_cons (em_unopt fun _ => (ep_var rfl)) (am_cons (em_pure fun _ => (ep_var rfl)) am_nil)) fun _ => rfl)) (fun _ => (ep_var rfl)) fun _ => o_lt)))) (rp_post (f := fun symbols478 => symbols478) (rp_asg (Γ := fun (s : Unit) => [.im (pv K disks), .im (pv K lost), .im (pv K records), .im (pv K few), .im (pv K contents), .im (pv K ((disks - lost) : Int)), .im (pv K z444.1), .im (pv K t457), .no, .im (pv K t459), .im (pv K a460), .im (pv K heads465), .no]) (i := 9) (Γ' := fun symbols478 (s : Unit) => [.im (pv K disks), .im (pv K lost), .im (pv K records), .im (pv K few), .im (pv K contents), .im (pv K ((disks - lost) : Int)), .im (pv K z444.1), .im (pv K t457), .no, .im (pv K symbols478), .im (pv K a460), .im (pv K heads465), .no]) (em_pure fun _ => (ep_op (ep_var rfl) (ep_int (K := K)) o_add)) (fun _ => rfl) fun _ _ => rfl) fun symbols478 s => (.cons (.rfl _) (.cons (.rfl _) (.cons (.rfl _) (.cons (.rfl _) (.cons (.rfl _) (.cons (.rfl _) (.cons (.rfl _) (.cons (.rfl _) (.cons (.rfl _) (.cons (.rfl _) (.cons (.rfl _) (.cons (.rfl _) (.cons (.rfl _) .nil)))))))))))))) (rp_next (x := t459) fun s => (.cons (.rfl _) (.cons (.rfl _) (.cons (.rfl _) (.cons (.rfl _) (.cons (.rfl _) (.cons (.rfl _) (.cons (.rfl _) (.cons (.rfl _) (.cons (.rfl _) (.cons (.rfl _) (.cons (.rfl _) (.cons (.rfl _) (.cons (.rfl _) .nil))))))))))))))) fun t477 s => (.cons (.rfl _) (.cons (.rfl _) (.cons (.rfl _) (.cons (.rfl _) (.cons (.rfl _) (.cons (.rfl _) (.cons (.rfl _) (.cons (.rfl _) (.cons (.rfl _) (.cons (.rfl _) (.cons (.no _) (.cons (.no _) (.cons (.rfl _) .nil)))))))))))))))) fun t479 => (rt_seq (rp_asg (Γ := fun (s : Unit) => [.im (pv K disks), .im (pv K lost), .im (pv K records), .im (pv K few), .im (pv K contents), .im (pv K ((disks - lost) : Int)), .im (pv K z444.1), .im (pv K t457), .no, .im (pv K t479), .no, .no, .no]) (i := 11) (Γ' := fun heads484 (s : Unit) => [.im (pv K disks), .im (pv K lost), .im (pv K records), .im (pv K few), .im (pv K contents), .im (pv K ((disks - lost) : Int)), .im (pv K z444.1), .im (pv K t457), .no, .im (pv K t479), .no, .im (pv K heads484), .no]) (em_opl (g := fun (u : Int) (v : Int) => (u + v)) (fun _ => (ep_op (ep_var rfl) (ep_int (K := K)) o_add)) (em_oplC (g := fun (u : Int) (v : Int) => (u * v)) (c := fun (u : Int) (v : Int) => mulOk u v) (fun _ => (ep_var rfl)) (em_opC2 (fun _ => (ep_op (ep_var rfl) (ep_var rfl) o_add)) (fun _ => (ep_var rfl)) fun h => o_divW h) fun _ h => (o_mulW h)) fun _ => o_add) (fun _ => rfl) fun _ _ => rfl) fun heads484 => (rt_ret (em_pure fun _ => (ep_tup (ap_cons (ep_var rfl) (ap_cons (ep_var rfl) (ap_cons (ep_var rfl) (ap_cons (ep_if (tp_test (ep_op (ep_var rfl) (ep_int (K := K)) o_gt)) (fun _ => (ep_var rfl)) fun _ => ep_nonO) (ap_cons (ep_var rfl) ap_nil))))) tup5)) fun s => (.cons (.no _) (.cons (.no _) (.cons (.no _) (.cons (.no _) (.cons (.no _) (.cons (.no _) (.cons (.no _) (.cons (.no _) (.cons (.rfl _) (.cons (.no _) (.cons (.rfl _) (.cons (.no _) (.cons (.rfl _) .nil))))))))))))))))))))))) h⟩
theorem ok__law_sizes {f : Addr} {fd : FuncData} (F : FnP K "_law_sizes" (top 73) f fd) (hg : mg "_law_sizes" = some (.ref f)) (b_range : mg "range" = none) (C__law_choose : Cal P w K mg base 1 "_law_choose" ["many", "few"] (sp__law_choose K)) (C__law_power : Cal P w K mg base 1 "_law_power" ["base", "many"] (sp__law_power K)) : Cal P w K mg base 2 "_law_sizes" ["disks", "lost", "records", "few", "contents"] (sp__law_sizes K) := ⟨f, fd, fo__law_sizes F b_range C__law_choose C__law_power, hg, F.kp, F.bindsN fun _ _ _ _ _ _ us hl => match us, hl with | [_, _, _, _, _], _ => rfl⟩
def m__law_value (prime : Int) (data : (List Int)) (place : Int) : Mn Unit Int :=
  (mb (mp ((0 : Int) : Int)) fun found485 =>
  (mb (mb (mb (mp data) fun xs => mp xs.reverse) fun xs => forP xs found485 fun a487 (t486 : Int) =>
    (mb (mb (mb (mb (mb (mc (mulOk t486 place) (t486 * place)) fun x_488 => mp (x_488 + a487)) fun x_490 => mb (mp ()) fun z491 => mp (x_490, z491)) fun z492 => mp z492.1) fun x_493 => mc (modOk prime) (x_493 % prime)) fun found495 => mp found495)) fun t496 =>
  (mp t496)))
abbrev sp__law_value (K : PySem.W.Frag) : Sp := Prom (rIm K) (S := Unit) (fun i : Int × (List Int) × Int => [.im (pv K i.1), .im (pv K i.2.1), .im (pv K i.2.2)]) fun i => m__law_value i.1 i.2.1 i.2.2
theorem len__law_value : ∀ vs H Q E, sp__law_value K vs H Q E → vs.length = 3 := prom_len (S := Unit) (Ret := (rIm K)) (As := fun i : Int × (List Int) × Int => [.im (pv K i.1), .im (pv K i.2.1), .im (pv K i.2.2)]) (m := fun i => m__law_value i.1 i.2.1 i.2.2) fun _ => rfl
theorem sc__law_value : FnScope ["prime", "data", "place", "found", "symbol"] ["prime", "data", "place"] (defScope (top 74)) := ⟨rfl, rfl, rfl, by decide +kernel, rfl, by decide +kernel, by decide +kernel⟩
theorem fo__law_value {f : Addr} {fd : FuncData} (F : FnP K "_law_value" (top 74) f fd) (b_int : mg "int" = none) : FnOk P w K mg base CX0 1 f fd ["prime", "data", "place"] (sp__law_value K) := by
  refine F.ok sc__law_value (len__law_value (K := K)) (fun cdv A outer s H vs Q E hr h => ?_)
  have hl : vs.length = 3 := len__law_value (K := K) vs H Q E h
  match vs, hl, h with
  | [v0, v1, v2], _, h => exact ⟨_, PSs.nox ((pss_cons (ps_set (i := 3) sc__law_value.nd rfl (Or.inl rfl) pe_int) (pss_cons (ps_for PassesOwn.never rfl (pi_list (pe_revL (L2.pv 1))) (pg_name (i := 4) sc__law_value.nd rfl (Or.inl rfl)) (pss_one (ps_set (i := 3) sc__law_value.nd rfl (Or.inl rfl) (pe_op op_mod (pe_callTy call_int1 rfl b_int bt_int (pa_cons (pe_op op_add (pe_op op_mulW (L2.pv 3) (L2.pv 2)) (L2.pv 4)) pa_nil)) (L2.pv 0))))) (pss_one (ps_ret (L2.pv 3)))))), prom_ok (n := 3) (S := Unit) (Ret := (rIm K)) (As := fun i : Int × (List Int) × Int => [.im (pv K i.1), .im (pv K i.2.1), .im (pv K i.2.2)]) (m := fun i => m__law_value i.1 i.2.1 i.2.2) 2 (fun _ => rfl) rfl (fun (prime, data, place) => (show RN (rIm K) _ (fun (s : Unit) => [.im (pv K prime), .im (pv K data), .im (pv K place), .no, .no]) (m__law_value prime data place) (fun (s : Unit) => [.no, .no, .no, .no, .no]) from (rn_of (rt_seq (rp_asg (Γ := fun (s : Unit) => [.im (pv K prime), .im (pv K data), .im (pv K place), .no, .no]) (i := 3) (Γ' := fun found485 (s : Unit) => [.im (pv K prime), .im (pv K data), .im (pv K place), .im (pv K found485), .no]) (em_pure fun _ => (ep_int (K := K))) (fun _ => rfl) fun _ _ => rfl) fun found485 => (rt_seq (rp_for (ΓL := fun (t486 : Int) (s : Unit) => [.im (pv K prime), .im (pv K data), .im (pv K place), .im (pv K t486), .no]) (Γx := fun (a487 : Int) (t486 : Int) (s : Unit) => [.im (pv K prime), .im (pv K data), .im (pv K place), .im (pv K t486), .im (pv K a487)]) (im_listM (em_ownL (eo_back (em_pure fun _ => (ep_var rfl))))) (fun s => (.cons (.rfl _) (.cons (.rfl _) (.cons (.rfl _) (.cons (.rfl _) (.cons (.rfl _) .nil)))))) (fun a487 t486 s => (gt_name (Γ := [.im (pv K prime), .im (pv K data), .im (pv K place), .im (pv K t486), .no]) (i := 4) (Γ' := [.im (pv K prime), .im (pv K data), .im (pv K place), .im (pv K t486), .im (pv K a487)]) rfl rfl)) fun a487 t486 => (rp_post (f := fun found495 => found495) (rp_asg (Γ := fun (s : Unit) => [.im (pv K prime), .im (pv K data), .im (pv K place), .im (pv K t486), .im (pv K a487)]) (i := 3) (Γ' := fun found495 (s : Unit) => [.im (pv K prime), .im (pv K data), .im (pv K place), .im (pv K found495), .im (pv K a487)]) (em_oprC (g := fun (u : Int) (v : Int) => (u % v)) (c := fun (u : Int) (v : Int) => modOk v) (em_cb (f := fun (z492 : Int × Unit) => z492.1) (am_cons (em_opr (g := fun (u : Int) (v : Int) => (u + v)) (em_opC2 (fun _ => (ep_var rfl)) (fun _ => (ep_var rfl)) fun h => o_mulW h) (fun _ => (ep_var rfl)) fun _ => o_add) am_nil) fun _ => c_int) (fun _ => (ep_var rfl)) fun _ h => (o_mod h)) (fun _ => rfl) fun _ _ => rfl) fun found495 s => (.cons (.rfl _) (.cons (.rfl _) (.cons (.rfl _) (.cons (.rfl _) (.cons (.no _) .nil))))))) fun t496 => (rt_ret (em_pure fun _ => (ep_var rfl)) fun s => (.cons (.no _) (.cons (.no _) (.cons (.no _) (.cons (.no _) (.cons (.rfl _) .nil))))))))))) h⟩
theorem ok__law_value {f : Addr} {fd : FuncData} (F : FnP K "_law_value" (top 74) f fd) (hg : mg "_law_value" = some (.ref f)) (b_int : mg "int" = none) : Cal P w K mg base 1 "_law_value" ["prime", "data", "place"] (sp__law_value K) := ⟨f, fd, fo__law_value F b_int, hg, F.kp, F.bindsN fun _ _ _ _ _ _ us hl => match us, hl with | [_, _, _], _ => rfl⟩
def m__law_word (sizes : (T5 Int Int Int (Option Int) Int)) (number : Int) : Mn Unit (Tu Int) :=
  (mb (mp sizes) fun z497 =>
  (mb (mp (decide (z497.c < (2 : Int)))) fun b => mi b
    (mb (mb (mb (mc (b62 z497.e) (rng 0 z497.e.toNat)) fun xs => cmP xs (fun (a498 : Int) => (mp true)) fun a498 => (mp ((cond (decide (z497.c = (0 : Int))) (1 : Int) (number + (1 : Int))) : Int))) fun x_499 => mb (mp ()) fun z500 => mp (x_499, z500)) fun z501 => mp (Tu.mk z501.1))
    (mb (mb (mp ([] : (List Int))) fun x_503 => mb (mp ()) fun z504 => mp (x_503, z504)) fun z502 =>
  (mb (mb (mc (b62 z497.c) (rng 0 z497.c.toNat)) fun xs => forP xs (z502.1, number) fun a506 (t505 : (List Int) × Int) =>
    (mb (mb (mb (mo z497.d) fun y508 => mc (modOk y508) (t505.2 % y508)) fun x_510 => mc (lenOk t505.1.length) (t505.1 ++ [x_510])) fun data509 =>
    (mb (mb (mo z497.d) fun y512 => mc (divOk y512) (t505.2 / y512)) fun left513 => mp (data509, left513)))) fun t514 =>
  (mb (mb (mb (mc (b62 z497.e) (rng 0 z497.e.toNat)) fun xs => cmP xs (fun (a515 : Int) => (mp true)) fun a515 => (mu (mb (mb (mb (mo z497.d) fun x_520 => mb (mb (mb (mp t514.1) fun xs => mp xs.reverse) fun x_518 => mb (mb (mp a515) fun x_516 => mb (mp ()) fun z517 => mp (x_516, z517)) fun z519 => mp (x_518, z519)) fun z521 => mp (x_520, z521)) fun z522 => (mu (m__law_value z522.1 z522.2.1 z522.2.2.1))) fun x_523 => mp (x_523 + (1 : Int))))) fun x_525 => mb (mp ()) fun z526 => mp (x_525, z526)) fun z527 => mp (Tu.mk z527.1))))))
abbrev sp__law_word (K : PySem.W.Frag) : Sp := Prom (rIm K) (S := Unit) (fun i : (T5 Int Int Int (Option Int) Int) × Int => [.im (pv K i.1), .im (pv K i.2)]) fun i => m__law_word i.1 i.2
theorem len__law_word : ∀ vs H Q E, sp__law_word K vs H Q E → vs.length = 2 := prom_len (S := Unit) (Ret := (rIm K)) (As := fun i : (T5 Int Int Int (Option Int) Int) × Int => [.im (pv K i.1), .im (pv K i.2)]) (m := fun i => m__law_word i.1 i.2) fun _ => rfl
theorem sc__law_word : FnScope ["sizes", "number", "need", "lots", "symbols", "prime", "heads", "data", "left", "turn", "k"] ["sizes", "number"] (defScope (top 75)) := ⟨rfl, rfl, rfl, by decide +kernel, rfl, by decide +kernel, by decide +kernel⟩
theorem fo__law_word {f : Addr} {fd : FuncData} (F : FnP K "_law_word" (top 75) f fd) (b_int : mg "int" = none) (b_range : mg "range" = none) (b_tuple : mg "tuple" = none) (C__law_value : Cal P w K mg base 1 "_law_value" ["prime", "data", "place"] (sp__law_value K)) : FnOk P w K mg base CX0 2 f fd ["sizes", "number"] (sp__law_word K) := by
  obtain ⟨f__law_value, fd__law_value, G__law_value, g__law_value, kp__law_value, bi__law_value⟩ := C__law_value.ex
  refine F.ok sc__law_word (len__law_word (K := K)) (fun cdv A outer s H vs Q E hr h => ?_)
  have hl : vs.length = 2 := len__law_word (K := K) vs H Q E h
  match vs, hl, h with
  | [v0, v1], _, h => exact ⟨_, PSs.nox ((pss_cons (ps_asg (L2.pv 0) (pg_tup (n := 5) rfl (pgs_cons (pg_name (i := 2) sc__law_word.nd rfl (Or.inl rfl)) (pgs_cons (pg_name (i := 3) sc__law_word.nd rfl (Or.inl rfl)) (pgs_cons (pg_name (i := 4) sc__law_word.nd rfl (Or.inr rfl)) (pgs_cons (pg_name (i := 5) sc__law_word.nd rfl (Or.inr rfl)) (pgs_cons (pg_name (i := 6) sc__law_word.nd rfl (Or.inl rfl)) pgs_nil))))))) (pss_cons (ps_if (pt_cmpR op_lt (L2.pv 4) pe_int (nomark _)) (pss_one (ps_ret (pe_callTy call_tuple_of rfl b_tuple bt_tuple (pa_cons (pe_lc (own := [("k", 10)]) rfl sc__law_word.nd (pi_range1 rfl b_range (pa_cons (L2.pv 6) pa_nil)) (blkOk_by (own := [("k", 10)]) (N := ["sizes", "number", "need", "lots", "symbols", "prime", "heads", "data", "left", "turn", "k"]) (sc := defScope (top 75)) (by decide +kernel)) (fun _ _ _ _ _ => (pg_name (i := 10) sc__law_word.nd rfl (Or.inl rfl))) (fun _ _ _ _ _ => pts_nil) (fun _ _ _ _ _ => (pe_ifExp (pt_cmpR op_eq (L2.pv 4) pe_int (nomark _)) pe_int (pe_op op_add (L2.pv 1) pe_int)))) pa_nil)))) pss_nil) (pss_cons (ps_asg (pe_tup (pa_cons (pe_lst pa_nil) (pa_cons (L2.pv 1) pa_nil))) (pg_tup (n := 2) rfl (pgs_cons (pg_name (i := 7) sc__law_word.nd rfl (Or.inr rfl)) (pgs_cons (pg_name (i := 8) sc__law_word.nd rfl (Or.inl rfl)) pgs_nil)))) (pss_cons (ps_for PassesOwn.never rfl (pi_range1 rfl b_range (pa_cons (L2.pv 4) pa_nil)) (pg_name (i := 9) sc__law_word.nd rfl (Or.inl rfl)) (pss_cons (ps_expr (pe_bm PySem.F.plainAttrs_list PySem.F.slot_list_append PySem.F.type_list_append mt_append (L2.pv 7) (pa_cons (pe_op op_mod (pe_callTy call_int1 rfl b_int bt_int (pa_cons (L2.pv 8) pa_nil)) (L2.pv 5)) pa_nil))) (pss_one (ps_set (i := 8) sc__law_word.nd rfl (Or.inl rfl) (pe_op op_fdivW (L2.pv 8) (L2.pv 5)))))) (pss_one (ps_ret (pe_callTy call_tuple_of rfl b_tuple bt_tuple (pa_cons (pe_lc (own := [("k", 10)]) rfl sc__law_word.nd (pi_range1 rfl b_range (pa_cons (L2.pv 6) pa_nil)) (blkOk_by (own := [("k", 10)]) (N := ["sizes", "number", "need", "lots", "symbols", "prime", "heads", "data", "left", "turn", "k"]) (sc := defScope (top 75)) (by decide +kernel)) (fun _ _ _ _ _ => (pg_name (i := 10) sc__law_word.nd rfl (Or.inl rfl))) (fun _ _ _ _ _ => pts_nil) (fun _ _ _ _ _ => (pe_op op_add (pe_call G__law_value (hr.mono (Nat.le_of_ble_eq_true rfl)) rfl g__law_value kp__law_value bi__law_value .nil pass0 (pa_cons (L2.pv 5) (pa_cons (pe_revL (L2.pv 7)) (pa_cons (L2.pv 10) pa_nil)))) pe_int))) pa_nil))))))))), prom_ok (n := 2) (S := Unit) (Ret := (rIm K)) (As := fun i : (T5 Int Int Int (Option Int) Int) × Int => [.im (pv K i.1), .im (pv K i.2)]) (m := fun i => m__law_word i.1 i.2) 9 (fun _ => rfl) rfl (fun (sizes, number) => (show RN (rIm K) _ (fun (s : Unit) => [.im (pv K sizes), .im (pv K number), .no, .no, .no, .no, .no, .no, .no, .no, .no]) (m__law_word sizes number) (fun (s : Unit) => [.no, .no, .no, .no, .no, .no, .no, .no, .no, .no, .no]) from (rn_of (rt_seq (rp_tup (Γ := fun (s : Unit) => [.im (pv K sizes), .im (pv K number), .no, .no, .no, .no, .no, .no, .no, .no, .no]) (Γ' := fun (z497 : (T5 Int Int Int (Option Int) Int)) (s : Unit) => [.im (pv K sizes), .im (pv K number), .im (pv K z497.a), .im (pv K z497.b), .im (pv K z497.c), .im (pv K z497.d), .im (pv K z497.e), .no, .no, .no, .no]) (em_pure fun _ => (ep_var rfl)) fun z497 s => (gt_5 (gt_name (Γ := [.im (pv K sizes), .im (pv K number), .no, .no, .no, .no, .no, .no, .no, .no, .no]) (i := 2) (Γ' := [.im (pv K sizes), .im (pv K number), .im (pv K z497.a), .no, .no, .no, .no, .no, .no, .no, .no]) rfl rfl) (gt_name (Γ := [.im (pv K sizes), .im (pv K number), .im (pv K z497.a), .no, .no, .no, .no, .no, .no, .no, .no]) (i := 3) (Γ' := [.im (pv K sizes), .im (pv K number), .im (pv K z497.a), .im (pv K z497.b), .no, .no, .no, .no, .no, .no, .no]) rfl rfl) (gt_name (Γ := [.im (pv K sizes), .im (pv K number), .im (pv K z497.a), .im (pv K z497.b), .no, .no, .no, .no, .no, .no, .no]) (i := 4) (Γ' := [.im (pv K sizes), .im (pv K number), .im (pv K z497.a), .im (pv K z497.b), .im (pv K z497.c), .no, .no, .no, .no, .no, .no]) rfl rfl) (gt_name (Γ := [.im (pv K sizes), .im (pv K number), .im (pv K z497.a), .im (pv K z497.b), .im (pv K z497.c), .no, .no, .no, .no, .no, .no]) (i := 5) (Γ' := [.im (pv K sizes), .im (pv K number), .im (pv K z497.a), .im (pv K z497.b), .im (pv K z497.c), .im (pv K z497.d), .no, .no, .no, .no, .no]) rfl rfl) (gt_name (Γ := [.im (pv K sizes), .im (pv K number), .im (pv K z497.a), .im (pv K z497.b), .im (pv K z497.c), .im (pv K z497.d), .no, .no, .no, .no, .no]) (i := 6) (Γ' := [.im (pv K sizes), .im (pv K number), .im (pv K z497.a), .im (pv K z497.b), .im (pv K z497.c), .im (pv K z497.d), .im (pv K z497.e), .no, .no, .no, .no]) rfl rfl))) fun z497 => (rt_ifr (tm_pure fun _ => (tp_test (ep_op (ep_var rfl) (ep_int (K := K)) o_lt))) (rt_ret (em_cb (f := fun (z501 : (List Int) × Unit) => Tu.mk z501.1) (am_cons (em_lc (Γx := fun (a498 : Int) (s : Unit) => [.im (pv K sizes), .im (pv K number), .im (pv K z497.a), .im (pv K z497.b), .im (pv K z497.c), .im (pv K z497.d), .im (pv K z497.e), .no, .no, .no, .im (pv K a498)]) (js := [10]) (im_rng1 fun _ => (ap_cons (ep_var rfl) ap_nil)) (fun _ => rfl) (fun a498 s => (gt_name (Γ := [.im (pv K sizes), .im (pv K number), .im (pv K z497.a), .im (pv K z497.b), .im (pv K z497.c), .im (pv K z497.d), .im (pv K z497.e), .no, .no, .no, .no]) (i := 10) (Γ' := [.im (pv K sizes), .im (pv K number), .im (pv K z497.a), .im (pv K z497.b), .im (pv K z497.c), .im (pv K z497.d), .im (pv K z497.e), .no, .no, .no, .im (pv K a498)]) rfl rfl)) rfl (fun a498 => tm_yes) (fun a498 => (em_pure fun _ => (ep_if (tp_test (ep_op (ep_var rfl) (ep_int (K := K)) o_eq)) (fun _ => (ep_int (K := K))) fun _ => (ep_op (ep_var rfl) (ep_int (K := K)) o_add)))) fun a498 s => (.cons (.rfl _) (.cons (.rfl _) (.cons (.rfl _) (.cons (.rfl _) (.cons (.rfl _) (.cons (.rfl _) (.cons (.rfl _) (.cons (.rfl _) (.cons (.rfl _) (.cons (.rfl _) (.cons (.no _) .nil)))))))))))) am_nil) fun _ => c_tupL) fun s => (.cons (.no _) (.cons (.no _) (.cons (.no _) (.cons (.no _) (.cons (.no _) (.cons (.no _) (.cons (.no _) (.cons (.rfl _) (.cons (.rfl _) (.cons (.rfl _) (.cons (.rfl _) .nil)))))))))))) (rt_seq (rp_asgT (Γ' := fun z502 (s : Unit) => [.im (pv K sizes), .im (pv K number), .im (pv K z497.a), .im (pv K z497.b), .im (pv K z497.c), .im (pv K z497.d), .im (pv K z497.e), .ow (ol K z502.1), .im (pv K number), .no, .no]) [7, 8] (ao_o (eo_lst (xs := ([] : (List Int))) (fun _ => ap_nil)) (ao_p (fun _ => (ep_var rfl)) ao_nil)) (fun _ => asg_ok rfl) (fun _ => rfl) (fun _ => rfl) (Nat.le_of_ble_eq_true rfl) fun _ _ => rfl) fun z502 => (rt_seq (rp_for (ΓL := fun (t505 : (List Int) × Int) (s : Unit) => [.im (pv K sizes), .im (pv K number), .im (pv K z497.a), .im (pv K z497.b), .im (pv K z497.c), .im (pv K z497.d), .im (pv K z497.e), .ow (ol K t505.1), .im (pv K t505.2), .no, .no]) (Γx := fun (a506 : Int) (t505 : (List Int) × Int) (s : Unit) => [.im (pv K sizes), .im (pv K number), .im (pv K z497.a), .im (pv K z497.b), .im (pv K z497.c), .im (pv K z497.d), .im (pv K z497.e), .ow (ol K t505.1), .im (pv K t505.2), .im (pv K a506), .no]) (im_rng1 fun _ => (ap_cons (ep_var rfl) ap_nil)) (fun s => (.cons (.rfl _) (.cons (.rfl _) (.cons (.rfl _) (.cons (.rfl _) (.cons (.rfl _) (.cons (.rfl _) (.cons (.rfl _) (.cons (.rfl _) (.cons (.rfl _) (.cons (.rfl _) (.cons (.rfl _) .nil)))))))))))) (fun a506 t505 s => (gt_name (Γ := [.im (pv K sizes), .im (pv K number), .im (pv K z497.a), .im (pv K z497.b), .im (pv K z497.c), .im (pv K z497.d), .im (pv K z497.e), .ow (ol K t505.1), .im (pv K t505.2), .no, .no]) (i := 9) (Γ' := [.im (pv K sizes), .im (pv K number), .im (pv K z497.a), .im (pv K z497.b), .im (pv K z497.c), .im (pv K z497.d), .im (pv K z497.e), .ow (ol K t505.1), .im (pv K t505.2), .im (pv K a506), .no]) rfl rfl)) fun a506 t505 => (rp_seq (rp_app (Γ' := fun data509 (s : Unit) => [.im (pv K sizes), .im (pv K number), .im (pv K z497.a), .im (pv K z497.b), .im (pv K z497.c), .im (pv K z497.d), .im (pv K z497.e), .ow (ol K data509), .im (pv K t505.2), .im (pv K a506), .no]) (fun _ => rfl) (em_oplC (g := fun (u : Int) (v : Int) => (u % v)) (c := fun (u : Int) (v : Int) => modOk v) (fun _ => (ep_cb (ap_cons (ep_var rfl) ap_nil) c_int)) (em_unopt fun _ => (ep_var rfl)) fun _ h => (o_mod h)) fun _ _ => rfl) fun data509 => (rp_post (f := fun left513 => (data509, left513)) (rp_asg (Γ := fun (s : Unit) => [.im (pv K sizes), .im (pv K number), .im (pv K z497.a), .im (pv K z497.b), .im (pv K z497.c), .im (pv K z497.d), .im (pv K z497.e), .ow (ol K data509), .im (pv K t505.2), .im (pv K a506), .no]) (i := 8) (Γ' := fun left513 (s : Unit) => [.im (pv K sizes), .im (pv K number), .im (pv K z497.a), .im (pv K z497.b), .im (pv K z497.c), .im (pv K z497.d), .im (pv K z497.e), .ow (ol K data509), .im (pv K left513), .im (pv K a506), .no]) (em_oplC (g := fun (u : Int) (v : Int) => (u / v)) (c := fun (u : Int) (v : Int) => divOk v) (fun _ => (ep_var rfl)) (em_unopt fun _ => (ep_var rfl)) fun _ h => (o_divW h)) (fun _ => rfl) fun _ _ => rfl) fun left513 s => (.cons (.rfl _) (.cons (.rfl _) (.cons (.rfl _) (.cons (.rfl _) (.cons (.rfl _) (.cons (.rfl _) (.cons (.rfl _) (.cons (.rfl _) (.cons (.rfl _) (.cons (.no _) (.cons (.rfl _) .nil)))))))))))))) fun t514 => (rt_ret (em_cb (f := fun (z527 : (List Int) × Unit) => Tu.mk z527.1) (am_cons (em_lc (Γx := fun (a515 : Int) (s : Unit) => [.im (pv K sizes), .im (pv K number), .im (pv K z497.a), .im (pv K z497.b), .im (pv K z497.c), .im (pv K z497.d), .im (pv K z497.e), .ow (ol K t514.1), .im (pv K t514.2), .no, .im (pv K a515)]) (js := [10]) (im_rng1 fun _ => (ap_cons (ep_var rfl) ap_nil)) (fun _ => rfl) (fun a515 s => (gt_name (Γ := [.im (pv K sizes), .im (pv K number), .im (pv K z497.a), .im (pv K z497.b), .im (pv K z497.c), .im (pv K z497.d), .im (pv K z497.e), .ow (ol K t514.1), .im (pv K t514.2), .no, .no]) (i := 10) (Γ' := [.im (pv K sizes), .im (pv K number), .im (pv K z497.a), .im (pv K z497.b), .im (pv K z497.c), .im (pv K z497.d), .im (pv K z497.e), .ow (ol K t514.1), .im (pv K t514.2), .no, .im (pv K a515)]) rfl rfl)) rfl (fun a515 => tm_yes) (fun a515 => (em_bor (Γ0 := [.im (pv K sizes), .im (pv K number), .im (pv K z497.a), .im (pv K z497.b), .im (pv K z497.c), .im (pv K z497.d), .im (pv K z497.e), .im (pv K t514.1), .im (pv K t514.2), .no, .im (pv K a515)]) (fun _ => (.cons (.rfl _) (.cons (.rfl _) (.cons (.rfl _) (.cons (.rfl _) (.cons (.rfl _) (.cons (.rfl _) (.cons (.rfl _) (.cons (.fr fr_ol) (.cons (.rfl _) (.cons (.rfl _) (.cons (.rfl _) .nil)))))))))))) rfl (em_opr (g := fun (u : Int) (v : Int) => (u + v)) (em_of_eo (eo_call0M (f := fun (z522 : Int × (List Int) × Int × Unit) => (z522.1, z522.2.1, z522.2.2.1)) (am_cons (em_unopt fun _ => (ep_var rfl)) (am_cons (em_ownL (eo_back (em_pure fun _ => (ep_var rfl)))) (am_cons (em_pure fun _ => (ep_var rfl)) am_nil))) fun _ => rfl)) (fun _ => (ep_int (K := K))) fun _ => o_add))) fun a515 s => (.cons (.rfl _) (.cons (.rfl _) (.cons (.rfl _) (.cons (.rfl _) (.cons (.rfl _) (.cons (.rfl _) (.cons (.rfl _) (.cons (.rfl _) (.cons (.rfl _) (.cons (.rfl _) (.cons (.no _) .nil)))))))))))) am_nil) fun _ => c_tupL) fun s => (.cons (.no _) (.cons (.no _) (.cons (.no _) (.cons (.no _) (.cons (.no _) (.cons (.no _) (.cons (.no _) (.cons (.drop _) (.cons (.no _) (.cons (.rfl _) (.cons (.rfl _) .nil))))))))))))))))))) h⟩
theorem ok__law_word {f : Addr} {fd : FuncData} (F : FnP K "_law_word" (top 75) f fd) (hg : mg "_law_word" = some (.ref f)) (b_int : mg "int" = none) (b_range : mg "range" = none) (b_tuple : mg "tuple" = none) (C__law_value : Cal P w K mg base 1 "_law_value" ["prime", "data", "place"] (sp__law_value K)) : Cal P w K mg base 2 "_law_word" ["sizes", "number"] (sp__law_word K) := ⟨f, fd, fo__law_word F b_int b_range b_tuple C__law_value, hg, F.kp, F.bindsN fun _ _ _ _ _ _ us hl => match us, hl with | [_, _], _ => rfl⟩
def m__law_drawn (box : Ref) : Mn (Sto K) ((T5 Int Int Int Int Int) × (T5 Int Int Int (Option Int) Int)) :=
  (mb (mp ([(T5.mk (3 : Int) (1 : Int) (2 : Int) (1 : Int) (5 : Int)), (T5.mk (2 : Int) (1 : Int) (2 : Int) (1 : Int) (5 : Int)), (T5.mk (4 : Int) (1 : Int) (6 : Int) (3 : Int) (13 : Int)), (T5.mk (3 : Int) (1 : Int) (2 : Int) (2 : Int) (5 : Int)), (T5.mk (5 : Int) (2 : Int) (5 : Int) (2 : Int) (11 : Int)), (T5.mk (1 : Int) (0 : Int) (6 : Int) (3 : Int) (13 : Int))] : (List (T5 Int Int Int Int Int)))) fun menu528 =>
  (mb (mb (mp (([(T5.mk (2 : Int) (1 : Int) (6 : Int) (3 : Int) (13 : Int)), (T5.mk (6 : Int) (2 : Int) (8 : Int) (4 : Int) (13 : Int)), (T5.mk (4 : Int) (2 : Int) (12 : Int) (6 : Int) (17 : Int)), (T5.mk (12 : Int) (2 : Int) (24 : Int) (6 : Int) (13 : Int)), (T5.mk (5 : Int) (3 : Int) (4 : Int) (2 : Int) (7 : Int)), (T5.mk (4 : Int) (3 : Int) (2 : Int) (1 : Int) (5 : Int))] : (List (T5 Int Int Int Int Int))) : (List (T5 Int Int Int Int Int)))) fun x_530 => mc (lenOk (menu528.length + x_530.length)) (menu528 ++ x_530)) fun menu529 =>
  (mb (mb (mb (mb (mp box) fun x_533 => mb (mb (mp (((menu529.length : Nat) : Int) : Int)) fun x_531 => mb (mp ()) fun z532 => mp (x_531, z532)) fun z534 => mp (x_533, z534)) fun z535 => (m__law_take z535.1 z535.2.1)) fun i537 => mo (atI menu529 i537)) fun numbers538 =>
  (mb (mb (mp numbers538) fun x_541 => mb (mb (mu (m__law_sizes numbers538.a numbers538.b numbers538.c numbers538.d numbers538.e)) fun x_539 => mb (mp ()) fun z540 => mp (x_539, z540)) fun z542 => mp (x_541, z542)) fun z543 => mp (z543.1, z543.2.1)))))
abbrev sp__law_drawn (K : PySem.W.Frag) : Sp := Prom (rIm K) (S := (Sto K)) (fun i : Ref => [.im (pv K i)]) fun i => m__law_drawn i
theorem len__law_drawn : ∀ vs H Q E, sp__law_drawn K vs H Q E → vs.length = 1 := prom_len (S := (Sto K)) (Ret := (rIm K)) (As := fun i : Ref => [.im (pv K i)]) (m := fun i => m__law_drawn i) fun _ => rfl
theorem sc__law_drawn : FnScope ["box", "menu", "numbers"] ["box"] (defScope (top 76)) := ⟨rfl, rfl, rfl, by decide +kernel, rfl, by decide +kernel, by decide +kernel⟩
theorem fo__law_drawn {f : Addr} {fd : FuncData} (F : FnP K "_law_drawn" (top 76) f fd) (b_len : mg "len" = none) (C__law_take : Cal P w K mg base 1 "_law_take" ["box", "many"] (sp__law_take K)) (C__law_sizes : Cal P w K mg base 2 "_law_sizes" ["disks", "lost", "records", "few", "contents"] (sp__law_sizes K)) : FnOk P w K mg base CX0 3 f fd ["box"] (sp__law_drawn K) := by
  obtain ⟨f__law_take, fd__law_take, G__law_take, g__law_take, kp__law_take, bi__law_take⟩ := C__law_take.ex
  obtain ⟨f__law_sizes, fd__law_sizes, G__law_sizes, g__law_sizes, kp__law_sizes, bi__law_sizes⟩ := C__law_sizes.ex
  refine F.ok sc__law_drawn (len__law_drawn (K := K)) (fun cdv A outer s H vs Q E hr h => ?_)
  have hl : vs.length = 1 := len__law_drawn (K := K) vs H Q E h
  match vs, hl, h with
  | [v0], _, h => exact ⟨_, PSs.nox ((pss_cons (ps_set (i := 1) sc__law_drawn.nd rfl (Or.inl rfl) (pe_lst (pa_cons (pe_tup (pa_cons pe_int (pa_cons pe_int (pa_cons pe_int (pa_cons pe_int (pa_cons pe_int pa_nil)))))) (pa_cons (pe_tup (pa_cons pe_int (pa_cons pe_int (pa_cons pe_int (pa_cons pe_int (pa_cons pe_int pa_nil)))))) (pa_cons (pe_tup (pa_cons pe_int (pa_cons pe_int (pa_cons pe_int (pa_cons pe_int (pa_cons pe_int pa_nil)))))) (pa_cons (pe_tup (pa_cons pe_int (pa_cons pe_int (pa_cons pe_int (pa_cons pe_int (pa_cons pe_int pa_nil)))))) (pa_cons (pe_tup (pa_cons pe_int (pa_cons pe_int (pa_cons pe_int (pa_cons pe_int (pa_cons pe_int pa_nil)))))) (pa_cons (pe_tup (pa_cons pe_int (pa_cons pe_int (pa_cons pe_int (pa_cons pe_int (pa_cons pe_int pa_nil)))))) pa_nil)))))))) (pss_cons (ps_expr (pe_bm PySem.F.plainAttrs_list PySem.F.slot_list_extend PySem.F.type_list_extend mt_extend (L2.pv 1) (pa_cons (pe_lst (pa_cons (pe_tup (pa_cons pe_int (pa_cons pe_int (pa_cons pe_int (pa_cons pe_int (pa_cons pe_int pa_nil)))))) (pa_cons (pe_tup (pa_cons pe_int (pa_cons pe_int (pa_cons pe_int (pa_cons pe_int (pa_cons pe_int pa_nil)))))) (pa_cons (pe_tup (pa_cons pe_int (pa_cons pe_int (pa_cons pe_int (pa_cons pe_int (pa_cons pe_int pa_nil)))))) (pa_cons (pe_tup (pa_cons pe_int (pa_cons pe_int (pa_cons pe_int (pa_cons pe_int (pa_cons pe_int pa_nil)))))) (pa_cons (pe_tup (pa_cons pe_int (pa_cons pe_int (pa_cons pe_int (pa_cons pe_int (pa_cons pe_int pa_nil)))))) (pa_cons (pe_tup (pa_cons pe_int (pa_cons pe_int (pa_cons pe_int (pa_cons pe_int (pa_cons pe_int pa_nil)))))) pa_nil))))))) pa_nil))) (pss_cons (ps_set (i := 2) sc__law_drawn.nd rfl (Or.inl rfl) (pe_ix ix_list (L2.pv 1) (pe_call G__law_take (hr.mono (Nat.le_of_ble_eq_true rfl)) rfl g__law_take kp__law_take bi__law_take .nil pass0 (pa_cons (L2.pv 0) (pa_cons (pe_callB call_len_seq rfl b_len bt_len (pa_cons (L2.pv 1) pa_nil)) pa_nil))) (fun _ _ => rfl))) (pss_one (ps_ret (pe_tup (pa_cons (L2.pv 2) (pa_cons (pe_call G__law_sizes (hr.mono (Nat.le_of_ble_eq_true rfl)) rfl g__law_sizes kp__law_sizes bi__law_sizes .nil pass0 (pa_cons (pe_ix ix_tup (L2.pv 2) pe_int (fun _ _ => rfl)) (pa_cons (pe_ix ix_tup (L2.pv 2) pe_int (fun _ _ => rfl)) (pa_cons (pe_ix ix_tup (L2.pv 2) pe_int (fun _ _ => rfl)) (pa_cons (pe_ix ix_tup (L2.pv 2) pe_int (fun _ _ => rfl)) (pa_cons (pe_ix ix_tup (L2.pv 2) pe_int (fun _ _ => rfl)) pa_nil)))))) pa_nil))))))))), prom_ok (n := 1) (S := (Sto K)) (Ret := (rIm K)) (As := fun i : Ref => [.im (pv K i)]) (m := fun i => m__law_drawn i) 2 (fun _ => rfl) rfl (fun box => (show RN (rIm K) _ (fun (s : (Sto K)) => [.im (pv K box), .no, .no]) (m__law_drawn box) (fun (s : (Sto K)) => [.no, .no, .no]) from (rn_of (rt_seq (rp_take (Γ := fun (s : (Sto K)) => [.im (pv K box), .no, .no]) (i := 1) (Γ' := fun menu528 (s : (Sto K)) => [.im (pv K box), .ow (ol K menu528), .no]) (eo_lst (xs := [(T5.mk (3 : Int) (1 : Int) (2 : Int) (1 : Int) (5 : Int)), (T5.mk (2 : Int) (1 : Int) (2 : Int) (1 : Int) (5 : Int)), (T5.mk (4 : Int) (1 : Int) (6 : Int) (3 : Int) (13 : Int)), (T5.mk (3 : Int) (1 : Int) (2 : Int) (2 : Int) (5 : Int)), (T5.mk (5 : Int) (2 : Int) (5 : Int) (2 : Int) (11 : Int)), (T5.mk (1 : Int) (0 : Int) (6 : Int) (3 : Int) (13 : Int))]) (hl := Nat.le_of_ble_eq_true rfl) fun _ => (ap_cons (ep_tup (ap_cons (ep_int (K := K)) (ap_cons (ep_int (K := K)) (ap_cons (ep_int (K := K)) (ap_cons (ep_int (K := K)) (ap_cons (ep_int (K := K)) ap_nil))))) tup5) (ap_cons (ep_tup (ap_cons (ep_int (K := K)) (ap_cons (ep_int (K := K)) (ap_cons (ep_int (K := K)) (ap_cons (ep_int (K := K)) (ap_cons (ep_int (K := K)) ap_nil))))) tup5) (ap_cons (ep_tup (ap_cons (ep_int (K := K)) (ap_cons (ep_int (K := K)) (ap_cons (ep_int (K := K)) (ap_cons (ep_int (K := K)) (ap_cons (ep_int (K := K)) ap_nil))))) tup5) (ap_cons (ep_tup (ap_cons (ep_int (K := K)) (ap_cons (ep_int (K := K)) (ap_cons (ep_int (K := K)) (ap_cons (ep_int (K := K)) (ap_cons (ep_int (K := K)) ap_nil))))) tup5) (ap_cons (ep_tup (ap_cons (ep_int (K := K)) (ap_cons (ep_int (K := K)) (ap_cons (ep_int (K := K)) (ap_cons (ep_int (K := K)) (ap_cons (ep_int (K := K)) ap_nil))))) tup5) (ap_cons (ep_tup (ap_cons (ep_int (K := K)) (ap_cons (ep_int (K := K)) (ap_cons (ep_int (K := K)) (ap_cons (ep_int (K := K)) (ap_cons (ep_int (K := K)) ap_nil))))) tup5) ap_nil))))))) (fun _ => rfl) (fun _ => Nat.le_of_ble_eq_true rfl) fun _ _ => rfl) fun menu528 => (rt_seq (rp_ext (Γ' := fun menu529 (s : (Sto K)) => [.im (pv K box), .ow (ol K menu529), .no]) (fun _ => rfl) (em_pure fun _ => (ep_lst (xs := ([(T5.mk (2 : Int) (1 : Int) (6 : Int) (3 : Int) (13 : Int)), (T5.mk (6 : Int) (2 : Int) (8 : Int) (4 : Int) (13 : Int)), (T5.mk (4 : Int) (2 : Int) (12 : Int) (6 : Int) (17 : Int)), (T5.mk (12 : Int) (2 : Int) (24 : Int) (6 : Int) (13 : Int)), (T5.mk (5 : Int) (3 : Int) (4 : Int) (2 : Int) (7 : Int)), (T5.mk (4 : Int) (3 : Int) (2 : Int) (1 : Int) (5 : Int))] : (List (T5 Int Int Int Int Int)))) (hl := Nat.le_of_ble_eq_true rfl) (ap_cons (ep_tup (ap_cons (ep_int (K := K)) (ap_cons (ep_int (K := K)) (ap_cons (ep_int (K := K)) (ap_cons (ep_int (K := K)) (ap_cons (ep_int (K := K)) ap_nil))))) tup5) (ap_cons (ep_tup (ap_cons (ep_int (K := K)) (ap_cons (ep_int (K := K)) (ap_cons (ep_int (K := K)) (ap_cons (ep_int (K := K)) (ap_cons (ep_int (K := K)) ap_nil))))) tup5) (ap_cons (ep_tup (ap_cons (ep_int (K := K)) (ap_cons (ep_int (K := K)) (ap_cons (ep_int (K := K)) (ap_cons (ep_int (K := K)) (ap_cons (ep_int (K := K)) ap_nil))))) tup5) (ap_cons (ep_tup (ap_cons (ep_int (K := K)) (ap_cons (ep_int (K := K)) (ap_cons (ep_int (K := K)) (ap_cons (ep_int (K := K)) (ap_cons (ep_int (K := K)) ap_nil))))) tup5) (ap_cons (ep_tup (ap_cons (ep_int (K := K)) (ap_cons (ep_int (K := K)) (ap_cons (ep_int (K := K)) (ap_cons (ep_int (K := K)) (ap_cons (ep_int (K := K)) ap_nil))))) tup5) (ap_cons (ep_tup (ap_cons (ep_int (K := K)) (ap_cons (ep_int (K := K)) (ap_cons (ep_int (K := K)) (ap_cons (ep_int (K := K)) (ap_cons (ep_int (K := K)) ap_nil))))) tup5) ap_nil)))))))) fun _ _ => rfl) fun menu529 => (rt_pre (fun s => (.cons (.rfl _) (.cons (.fr fr_ol) (.cons (.rfl _) .nil)))) (rt_seq (rp_asg (Γ := fun (s : (Sto K)) => [.im (pv K box), .im (pv K menu529), .no]) (i := 2) (Γ' := fun numbers538 (s : (Sto K)) => [.im (pv K box), .im (pv K menu529), .im (pv K numbers538)]) (em_ixLl (fun _ => (ep_var rfl)) (em_of_eo (eo_callS (f := fun (z535 : Ref × Int × Unit) => (z535.1, z535.2.1)) (am_cons (em_pure fun _ => (ep_var rfl)) (am_cons (em_pure fun _ => (ep_cb (ap_cons (ep_var rfl) ap_nil) c_lenL)) am_nil)) (fun _ _ => rfl) fun _ _ => rfl))) (fun _ => rfl) fun _ _ => rfl) fun numbers538 => (rt_ret (em_tup (f := fun (z543 : (T5 Int Int Int Int Int) × (T5 Int Int Int (Option Int) Int) × Unit) => (z543.1, z543.2.1)) (am_cons (em_pure fun _ => (ep_var rfl)) (am_cons (em_of_eo (eo_call0 (i := (numbers538.a, numbers538.b, numbers538.c, numbers538.d, numbers538.e)) (ps := [pv K numbers538.a, pv K numbers538.b, pv K numbers538.c, pv K numbers538.d, pv K numbers538.e]) (fun _ => (ap_cons (ep_op (ep_var rfl) (ep_int (K := K)) pr5_0) (ap_cons (ep_op (ep_var rfl) (ep_int (K := K)) pr5_1) (ap_cons (ep_op (ep_var rfl) (ep_int (K := K)) pr5_2) (ap_cons (ep_op (ep_var rfl) (ep_int (K := K)) pr5_3) (ap_cons (ep_op (ep_var rfl) (ep_int (K := K)) pr5_4) ap_nil)))))) rfl)) am_nil)) fun z543 => tup2) fun s => (.cons (.no _) (.cons (.no _) (.cons (.no _) .nil))))))))))) h⟩
theorem ok__law_drawn {f : Addr} {fd : FuncData} (F : FnP K "_law_drawn" (top 76) f fd) (hg : mg "_law_drawn" = some (.ref f)) (b_len : mg "len" = none) (C__law_take : Cal P w K mg base 1 "_law_take" ["box", "many"] (sp__law_take K)) (C__law_sizes : Cal P w K mg base 2 "_law_sizes" ["disks", "lost", "records", "few", "contents"] (sp__law_sizes K)) : Cal P w K mg base 3 "_law_drawn" ["box"] (sp__law_drawn K) := ⟨f, fd, fo__law_drawn F b_len C__law_take C__law_sizes, hg, F.kp, F.bindsN fun _ _ _ _ _ _ us hl => match us, hl with | [_], _ => rfl⟩
def m__law_rule (view : (List (Int × Int))) (symbols : Int) : Mn Unit Bool :=
  (mb (mb (mp ((cutL view none (some (symbols + (1 : Int)))) : (List (Int × Int)))) fun xs => cmP xs (fun (a544 : (Int × Int)) => (mp (decide (a544.2 = (0 : Int))))) fun a544 => (mp a544.1)) fun x_545 => mp (decide (x_545 = ([] : (List Int)))))
abbrev sp__law_rule (K : PySem.W.Frag) : Sp := Prom (rIm K) (S := Unit) (fun i : (List (Int × Int)) × Int => [.im (pv K i.1), .im (pv K i.2)]) fun i => m__law_rule i.1 i.2
theorem len__law_rule : ∀ vs H Q E, sp__law_rule K vs H Q E → vs.length = 2 := prom_len (S := Unit) (Ret := (rIm K)) (As := fun i : (List (Int × Int)) × Int => [.im (pv K i.1), .im (pv K i.2)]) (m := fun i => m__law_rule i.1 i.2) fun _ => rfl
theorem sc__law_rule : FnScope ["view", "symbols", "head", "content"] ["view", "symbols"] (defScope (top 77)) := ⟨rfl, rfl, rfl, by decide +kernel, rfl, by decide +kernel, by decide +kernel⟩
theorem fo__law_rule {f : Addr} {fd : FuncData} (F : FnP K "_law_rule" (top 77) f fd) : FnOk P w K mg base CX0 1 f fd ["view", "symbols"] (sp__law_rule K) := by
  refine F.ok sc__law_rule (len__law_rule (K := K)) (fun cdv A outer s H vs Q E hr h => ?_)
  have hl : vs.length = 2 := len__law_rule (K := K) vs H Q E h
  match vs, hl, h with
  | [v0, v1], _, h => exact ⟨_, PSs.nox ((pss_one (ps_ret (pe_cmpR (op_eqD (hu64 hr)) (pe_lc (own := [("head", 2), ("content", 3)]) rfl sc__law_rule.nd (pi_list (pe_slice sl_list (L2.pv 0) po_none (po_some (pe_op op_add (L2.pv 1) pe_int)))) (blkOk_by (own := [("head", 2), ("content", 3)]) (N := ["view", "symbols", "head", "content"]) (sc := defScope (top 77)) (by decide +kernel)) (fun _ _ _ _ _ => (pg_tup (n := 2) rfl (pgs_cons (pg_name (i := 2) sc__law_rule.nd rfl (Or.inl rfl)) (pgs_cons (pg_name (i := 3) sc__law_rule.nd rfl (Or.inl rfl)) pgs_nil)))) (fun _ _ _ _ _ => (pts_one (pt_cmpR op_eq (L2.pv 3) pe_int (nomark _)))) (fun _ _ _ _ _ => (L2.pv 2))) (pe_lst pa_nil) (nomark _))))), prom_ok (n := 2) (S := Unit) (Ret := (rIm K)) (As := fun i : (List (Int × Int)) × Int => [.im (pv K i.1), .im (pv K i.2)]) (m := fun i => m__law_rule i.1 i.2) 2 (fun _ => rfl) rfl (fun (view, symbols) => (show RN (rIm K) _ (fun (s : Unit) => [.im (pv K view), .im (pv K symbols), .no, .no]) (m__law_rule view symbols) (fun (s : Unit) => [.no, .no, .no, .no]) from (rn_of (rt_ret (em_opr (g := fun (u : (List Int)) (v : (List Int)) => decide (u = v)) (em_lc (Γx := fun (a544 : (Int × Int)) (s : Unit) => [.im (pv K view), .im (pv K symbols), .im (pv K a544.1), .im (pv K a544.2)]) (js := [2, 3]) (im_list fun _ => (ep_sl (ep_var rfl) po_no (po_i (ep_op (ep_var rfl) (ep_int (K := K)) o_add)))) (fun _ => rfl) (fun a544 s => (gt_2 (gt_name (Γ := [.im (pv K view), .im (pv K symbols), .no, .no]) (i := 2) (Γ' := [.im (pv K view), .im (pv K symbols), .im (pv K a544.1), .no]) rfl rfl) (gt_name (Γ := [.im (pv K view), .im (pv K symbols), .im (pv K a544.1), .no]) (i := 3) (Γ' := [.im (pv K view), .im (pv K symbols), .im (pv K a544.1), .im (pv K a544.2)]) rfl rfl))) rfl (fun a544 => (tm_pure fun _ => (tp_test (ep_op (ep_var rfl) (ep_int (K := K)) o_eq)))) (fun a544 => (em_pure fun _ => (ep_var rfl))) fun a544 s => (.cons (.rfl _) (.cons (.rfl _) (.cons (.no _) (.cons (.no _) .nil))))) (fun _ => (ep_lst (xs := ([] : (List Int))) (hl := Nat.le_of_ble_eq_true rfl) ap_nil)) fun _ => (o_eqDt (Nat.le_of_ble_eq_true rfl))) fun s => (.cons (.no _) (.cons (.no _) (.cons (.rfl _) (.cons (.rfl _) .nil)))))))) h⟩
theorem ok__law_rule {f : Addr} {fd : FuncData} (F : FnP K "_law_rule" (top 77) f fd) (hg : mg "_law_rule" = some (.ref f)) : Cal P w K mg base 1 "_law_rule" ["view", "symbols"] (sp__law_rule K) := ⟨f, fd, fo__law_rule F, hg, F.kp, F.bindsN fun _ _ _ _ _ _ us hl => match us, hl with | [_, _], _ => rfl⟩
def m__law_writes (view : (List (Int × Int))) (word : (Tu Int)) (told_lot : Bool) : Mn Unit (List (Int × Int)) :=
  (mb (mp told_lot) fun b => mi b
    (mb (mp view) fun xs => cmP xs (fun (a547 : (Int × Int)) => (mb (mo (atI word.l a547.1)) fun y551 => mp (!decide (a547.2 = y551)))) fun a547 => (mb (mb (mp a547.1) fun x_556 => mb (mb (mo (atI word.l a547.1)) fun x_554 => mb (mp ()) fun z555 => mp (x_554, z555)) fun z557 => mp (x_556, z557)) fun z558 => mp (z558.1, z558.2.1)))
    (mb (mb (mp view) fun xs => mp xs.reverse) fun xs => cmP xs (fun (a559 : (Int × Int)) => (mp (!decide (a559.2 = (0 : Int))))) fun a559 => (mp ((a559.1, (0 : Int)) : (Int × Int)))))
abbrev sp__law_writes (K : PySem.W.Frag) : Sp := Prom (rOw (ol K)) (S := Unit) (fun i : (List (Int × Int)) × (Tu Int) × Bool => [.im (pv K i.1), .im (pv K i.2.1), .im (pv K i.2.2)]) fun i => m__law_writes i.1 i.2.1 i.2.2
theorem len__law_writes : ∀ vs H Q E, sp__law_writes K vs H Q E → vs.length = 3 := prom_len (S := Unit) (Ret := (rOw (ol K))) (As := fun i : (List (Int × Int)) × (Tu Int) × Bool => [.im (pv K i.1), .im (pv K i.2.1), .im (pv K i.2.2)]) (m := fun i => m__law_writes i.1 i.2.1 i.2.2) fun _ => rfl
theorem sc__law_writes : FnScope ["view", "word", "told_lot", "head", "content"] ["view", "word", "told_lot"] (defScope (top 78)) := ⟨rfl, rfl, rfl, by decide +kernel, rfl, by decide +kernel, by decide +kernel⟩
theorem fo__law_writes {f : Addr} {fd : FuncData} (F : FnP K "_law_writes" (top 78) f fd) : FnOk P w K mg base CX0 1 f fd ["view", "word", "told_lot"] (sp__law_writes K) := by
  refine F.ok sc__law_writes (len__law_writes (K := K)) (fun cdv A outer s H vs Q E hr h => ?_)
  have hl : vs.length = 3 := len__law_writes (K := K) vs H Q E h
  match vs, hl, h with
  | [v0, v1, v2], _, h => exact ⟨_, PSs.nox ((pss_cons (ps_if (pt_val (L2.pv 2)) (pss_one (ps_ret (pe_lc (own := [("head", 3), ("content", 4)]) rfl sc__law_writes.nd (pi_list (L2.pv 0)) (blkOk_by (own := [("head", 3), ("content", 4)]) (N := ["view", "word", "told_lot", "head", "content"]) (sc := defScope (top 78)) (by decide +kernel)) (fun _ _ _ _ _ => (pg_tup (n := 2) rfl (pgs_cons (pg_name (i := 3) sc__law_writes.nd rfl (Or.inl rfl)) (pgs_cons (pg_name (i := 4) sc__law_writes.nd rfl (Or.inl rfl)) pgs_nil)))) (fun _ _ _ _ _ => (pts_one (pt_cmpR op_ne (L2.pv 4) (pe_ix ix_tup (L2.pv 1) (L2.pv 3) (fun _ _ => rfl)) (nomark _)))) (fun _ _ _ _ _ => (pe_tup (pa_cons (L2.pv 3) (pa_cons (pe_ix ix_tup (L2.pv 1) (L2.pv 3) (fun _ _ => rfl)) pa_nil))))))) pss_nil) (pss_one (ps_ret (pe_lc (own := [("head", 3), ("content", 4)]) rfl sc__law_writes.nd (pi_list (pe_revL (L2.pv 0))) (blkOk_by (own := [("head", 3), ("content", 4)]) (N := ["view", "word", "told_lot", "head", "content"]) (sc := defScope (top 78)) (by decide +kernel)) (fun _ _ _ _ _ => (pg_tup (n := 2) rfl (pgs_cons (pg_name (i := 3) sc__law_writes.nd rfl (Or.inl rfl)) (pgs_cons (pg_name (i := 4) sc__law_writes.nd rfl (Or.inl rfl)) pgs_nil)))) (fun _ _ _ _ _ => (pts_one (pt_cmpR op_ne (L2.pv 4) pe_int (nomark _)))) (fun _ _ _ _ _ => (pe_tup (pa_cons (L2.pv 3) (pa_cons pe_int pa_nil))))))))), prom_ok (n := 3) (S := Unit) (Ret := (rOw (ol K))) (As := fun i : (List (Int × Int)) × (Tu Int) × Bool => [.im (pv K i.1), .im (pv K i.2.1), .im (pv K i.2.2)]) (m := fun i => m__law_writes i.1 i.2.1 i.2.2) 2 (fun _ => rfl) rfl (fun (view, word, told_lot) => (show RN (rOw (ol K)) _ (fun (s : Unit) => [.im (pv K view), .im (pv K word), .im (pv K told_lot), .no, .no]) (m__law_writes view word told_lot) (fun (s : Unit) => [.no, .no, .no, .no, .no]) from (rn_of (rt_ifr (tm_pure fun _ => (tp_B (ep_var rfl))) (rt_reto (eo_lc (Γx := fun (a547 : (Int × Int)) (s : Unit) => [.im (pv K view), .im (pv K word), .im (pv K told_lot), .im (pv K a547.1), .im (pv K a547.2)]) (js := [3, 4]) (im_list fun _ => (ep_var rfl)) (fun _ => rfl) (fun a547 s => (gt_2 (gt_name (Γ := [.im (pv K view), .im (pv K word), .im (pv K told_lot), .no, .no]) (i := 3) (Γ' := [.im (pv K view), .im (pv K word), .im (pv K told_lot), .im (pv K a547.1), .no]) rfl rfl) (gt_name (Γ := [.im (pv K view), .im (pv K word), .im (pv K told_lot), .im (pv K a547.1), .no]) (i := 4) (Γ' := [.im (pv K view), .im (pv K word), .im (pv K told_lot), .im (pv K a547.1), .im (pv K a547.2)]) rfl rfl))) rfl (fun a547 => (tm_test (em_opl (g := fun (u : Int) (v : Int) => (!decide (u = v))) (fun _ => (ep_var rfl)) (em_ixTp (fun _ => (ep_var rfl)) fun _ => (ep_var rfl)) fun _ => o_ne))) (fun a547 => (em_tup (f := fun (z558 : Int × Int × Unit) => (z558.1, z558.2.1)) (am_cons (em_pure fun _ => (ep_var rfl)) (am_cons (em_ixTp (fun _ => (ep_var rfl)) fun _ => (ep_var rfl)) am_nil)) fun z558 => tup2)) fun a547 s => (.cons (.rfl _) (.cons (.rfl _) (.cons (.rfl _) (.cons (.no _) (.cons (.no _) .nil)))))) fun s => (.cons (.no _) (.cons (.no _) (.cons (.no _) (.cons (.rfl _) (.cons (.rfl _) .nil)))))) (rt_reto (eo_lc (Γx := fun (a559 : (Int × Int)) (s : Unit) => [.im (pv K view), .im (pv K word), .im (pv K told_lot), .im (pv K a559.1), .im (pv K a559.2)]) (js := [3, 4]) (im_listM (em_ownL (eo_back (em_pure fun _ => (ep_var rfl))))) (fun _ => rfl) (fun a559 s => (gt_2 (gt_name (Γ := [.im (pv K view), .im (pv K word), .im (pv K told_lot), .no, .no]) (i := 3) (Γ' := [.im (pv K view), .im (pv K word), .im (pv K told_lot), .im (pv K a559.1), .no]) rfl rfl) (gt_name (Γ := [.im (pv K view), .im (pv K word), .im (pv K told_lot), .im (pv K a559.1), .no]) (i := 4) (Γ' := [.im (pv K view), .im (pv K word), .im (pv K told_lot), .im (pv K a559.1), .im (pv K a559.2)]) rfl rfl))) rfl (fun a559 => (tm_pure fun _ => (tp_test (ep_op (ep_var rfl) (ep_int (K := K)) o_ne)))) (fun a559 => (em_pure fun _ => (ep_tup (ap_cons (ep_var rfl) (ap_cons (ep_int (K := K)) ap_nil)) tup2))) fun a559 s => (.cons (.rfl _) (.cons (.rfl _) (.cons (.rfl _) (.cons (.no _) (.cons (.no _) .nil)))))) fun s => (.cons (.no _) (.cons (.no _) (.cons (.no _) (.cons (.rfl _) (.cons (.rfl _) .nil)))))))))) h⟩
theorem ok__law_writes {f : Addr} {fd : FuncData} (F : FnP K "_law_writes" (top 78) f fd) (hg : mg "_law_writes" = some (.ref f)) : Cal P w K mg base 1 "_law_writes" ["view", "word", "told_lot"] (sp__law_writes K) := ⟨f, fd, fo__law_writes F, hg, F.kp, F.bindsN fun _ _ _ _ _ _ us hl => match us, hl with | [_, _, _], _ => rfl⟩
def m__law_left_view (box : Ref) (word : (Tu Int)) (contents : Int) : Mn (Sto K) (List (Int × Int)) :=
  (mb (mb (mb (mb (mp box) fun x_562 => mb (mb (mp ((((word.l.length : Nat) : Int) + (1 : Int)) : Int)) fun x_560 => mb (mp ()) fun z561 => mp (x_560, z561)) fun z563 => mp (x_562, z563)) fun z564 => (m__law_take z564.1 z564.2.1)) fun x_573 => mb (mb (mb (mb (mp box) fun x_567 => mb (mb (mp contents) fun x_565 => mb (mp ()) fun z566 => mp (x_565, z566)) fun z568 => mp (x_567, z568)) fun z569 => (m__law_take z569.1 z569.2.1)) fun x_571 => mb (mp ()) fun z572 => mp (x_571, z572)) fun z574 => mp (x_573, z574)) fun z570 =>
  (mb (mc (b62 (((word.l.length : Nat) : Int) : Int)) (rng 0 (((word.l.length : Nat) : Int) : Int).toNat)) fun xs => cmP xs (fun (a575 : Int) => (mp true)) fun a575 => (mb (mb (mp a575) fun x_581 => mb (mb (mb (mp (decide (a575 < z570.1))) fun b578 => mi b578 (mo (atI word.l a575)) (mp ((cond (decide (a575 = z570.1)) z570.2.1 (0 : Int)) : Int))) fun x_579 => mb (mp ()) fun z580 => mp (x_579, z580)) fun z582 => mp (x_581, z582)) fun z583 => mp (z583.1, z583.2.1))))
abbrev sp__law_left_view (K : PySem.W.Frag) : Sp := Prom (rIm K) (S := (Sto K)) (fun i : Ref × (Tu Int) × Int => [.im (pv K i.1), .im (pv K i.2.1), .im (pv K i.2.2)]) fun i => m__law_left_view i.1 i.2.1 i.2.2
theorem len__law_left_view : ∀ vs H Q E, sp__law_left_view K vs H Q E → vs.length = 3 := prom_len (S := (Sto K)) (Ret := (rIm K)) (As := fun i : Ref × (Tu Int) × Int => [.im (pv K i.1), .im (pv K i.2.1), .im (pv K i.2.2)]) (m := fun i => m__law_left_view i.1 i.2.1 i.2.2) fun _ => rfl
theorem sc__law_left_view : FnScope ["box", "word", "contents", "at", "drawn", "k"] ["box", "word", "contents"] (defScope (top 79)) := ⟨rfl, rfl, rfl, by decide +kernel, rfl, by decide +kernel, by decide +kernel⟩
theorem fo__law_left_view {f : Addr} {fd : FuncData} (F : FnP K "_law_left_view" (top 79) f fd) (b_len : mg "len" = none) (b_range : mg "range" = none) (C__law_take : Cal P w K mg base 1 "_law_take" ["box", "many"] (sp__law_take K)) : FnOk P w K mg base CX0 2 f fd ["box", "word", "contents"] (sp__law_left_view K) := by
  obtain ⟨f__law_take, fd__law_take, G__law_take, g__law_take, kp__law_take, bi__law_take⟩ := C__law_take.ex
  refine F.ok sc__law_left_view (len__law_left_view (K := K)) (fun cdv A outer s H vs Q E hr h => ?_)
  have hl : vs.length = 3 := len__law_left_view (K := K) vs H Q E h
  match vs, hl, h with
  | [v0, v1, v2], _, h => exact ⟨_, PSs.nox ((pss_cons (ps_asg (pe_tup (pa_cons (pe_call G__law_take (hr.mono (Nat.le_of_ble_eq_true rfl)) rfl g__law_take kp__law_take bi__law_take .nil pass0 (pa_cons (L2.pv 0) (pa_cons (pe_op op_add (pe_callB call_len_seq rfl b_len bt_len (pa_cons (L2.pv 1) pa_nil)) pe_int) pa_nil))) (pa_cons (pe_call G__law_take (hr.mono (Nat.le_of_ble_eq_true rfl)) rfl g__law_take kp__law_take bi__law_take .nil pass0 (pa_cons (L2.pv 0) (pa_cons (L2.pv 2) pa_nil))) pa_nil))) (pg_tup (n := 2) rfl (pgs_cons (pg_name (i := 3) sc__law_left_view.nd rfl (Or.inr rfl)) (pgs_cons (pg_name (i := 4) sc__law_left_view.nd rfl (Or.inr rfl)) pgs_nil)))) (pss_one (ps_ret (pe_lc (own := [("k", 5)]) rfl sc__law_left_view.nd (pi_range1 rfl b_range (pa_cons (pe_callB call_len_seq rfl b_len bt_len (pa_cons (L2.pv 1) pa_nil)) pa_nil)) (blkOk_by (own := [("k", 5)]) (N := ["box", "word", "contents", "at", "drawn", "k"]) (sc := defScope (top 79)) (by decide +kernel)) (fun _ _ _ _ _ => (pg_name (i := 5) sc__law_left_view.nd rfl (Or.inl rfl))) (fun _ _ _ _ _ => pts_nil) (fun _ _ _ _ _ => (pe_tup (pa_cons (L2.pv 5) (pa_cons (pe_ifExp (pt_cmpR op_lt (L2.pv 5) (L2.pv 3) (nomark _)) (pe_ix ix_tup (L2.pv 1) (L2.pv 5) (fun _ _ => rfl)) (pe_ifExp (pt_cmpR op_eq (L2.pv 5) (L2.pv 3) (nomark _)) (L2.pv 4) pe_int)) pa_nil))))))))), prom_ok (n := 3) (S := (Sto K)) (Ret := (rIm K)) (As := fun i : Ref × (Tu Int) × Int => [.im (pv K i.1), .im (pv K i.2.1), .im (pv K i.2.2)]) (m := fun i => m__law_left_view i.1 i.2.1 i.2.2) 3 (fun _ => rfl) rfl (fun (box, word, contents) => (show RN (rIm K) _ (fun (s : (Sto K)) => [.im (pv K box), .im (pv K word), .im (pv K contents), .no, .no, .no]) (m__law_left_view box word contents) (fun (s : (Sto K)) => [.no, .no, .no, .no, .no, .no]) from (rn_of (rt_seq (rp_asgT (Γ' := fun z570 (s : (Sto K)) => [.im (pv K box), .im (pv K word), .im (pv K contents), .im (pv K z570.1), .im (pv K z570.2.1), .no]) [3, 4] (ao_m (em_of_eo (eo_callS (f := fun (z564 : Ref × Int × Unit) => (z564.1, z564.2.1)) (am_cons (em_pure fun _ => (ep_var rfl)) (am_cons (em_pure fun _ => (ep_op (ep_cb (ap_cons (ep_var rfl) ap_nil) c_lenT) (ep_int (K := K)) o_add)) am_nil)) (fun _ _ => rfl) fun _ _ => rfl)) (ao_m (em_of_eo (eo_callS (f := fun (z569 : Ref × Int × Unit) => (z569.1, z569.2.1)) (am_cons (em_pure fun _ => (ep_var rfl)) (am_cons (em_pure fun _ => (ep_var rfl)) am_nil)) (fun _ _ => rfl) fun _ _ => rfl)) ao_nil)) (fun _ => asg_ok rfl) (fun _ => rfl) (fun _ => rfl) (Nat.le_of_ble_eq_true rfl) fun _ _ => rfl) fun z570 => (rt_ret (em_lc (Γx := fun (a575 : Int) (s : (Sto K)) => [.im (pv K box), .im (pv K word), .im (pv K contents), .im (pv K z570.1), .im (pv K z570.2.1), .im (pv K a575)]) (js := [5]) (im_rng1 fun _ => (ap_cons (ep_cb (ap_cons (ep_var rfl) ap_nil) c_lenT) ap_nil)) (fun _ => rfl) (fun a575 s => (gt_name (Γ := [.im (pv K box), .im (pv K word), .im (pv K contents), .im (pv K z570.1), .im (pv K z570.2.1), .no]) (i := 5) (Γ' := [.im (pv K box), .im (pv K word), .im (pv K contents), .im (pv K z570.1), .im (pv K z570.2.1), .im (pv K a575)]) rfl rfl)) rfl (fun a575 => tm_yes) (fun a575 => (em_tup (f := fun (z583 : Int × Int × Unit) => (z583.1, z583.2.1)) (am_cons (em_pure fun _ => (ep_var rfl)) (am_cons (em_if (tm_pure fun _ => (tp_test (ep_op (ep_var rfl) (ep_var rfl) o_lt))) (em_ixTp (fun _ => (ep_var rfl)) fun _ => (ep_var rfl)) (em_pure fun _ => (ep_if (tp_test (ep_op (ep_var rfl) (ep_var rfl) o_eq)) (fun _ => (ep_var rfl)) fun _ => (ep_int (K := K))))) am_nil)) fun z583 => tup2)) fun a575 s => (.cons (.rfl _) (.cons (.rfl _) (.cons (.rfl _) (.cons (.rfl _) (.cons (.rfl _) (.cons (.no _) .nil))))))) fun s => (.cons (.no _) (.cons (.no _) (.cons (.no _) (.cons (.no _) (.cons (.no _) (.cons (.rfl _) .nil))))))))))) h⟩
theorem ok__law_left_view {f : Addr} {fd : FuncData} (F : FnP K "_law_left_view" (top 79) f fd) (hg : mg "_law_left_view" = some (.ref f)) (b_len : mg "len" = none) (b_range : mg "range" = none) (C__law_take : Cal P w K mg base 1 "_law_take" ["box", "many"] (sp__law_take K)) : Cal P w K mg base 2 "_law_left_view" ["box", "word", "contents"] (sp__law_left_view K) := ⟨f, fd, fo__law_left_view F b_len b_range C__law_take, hg, F.kp, F.bindsN fun _ _ _ _ _ _ us hl => match us, hl with | [_, _, _], _ => rfl⟩
def m__law_without (view : (List (Int × Int))) (disks : Int) (gone : (List Int)) : Mn Unit (List (Int × Int)) :=
  (mb (mp view) fun xs => cmP xs (fun (a584 : (Int × Int)) => (mb (mc (modOk disks) (a584.1 % disks)) fun x_585 => mp (!decide (x_585 ∈ gone)))) fun a584 => (mp ((a584.1, a584.2) : (Int × Int))))
abbrev sp__law_without (K : PySem.W.Frag) : Sp := Prom (rIm K) (S := Unit) (fun i : (List (Int × Int)) × Int × (List Int) => [.im (pv K i.1), .im (pv K i.2.1), .im (pv K i.2.2)]) fun i => m__law_without i.1 i.2.1 i.2.2
theorem len__law_without : ∀ vs H Q E, sp__law_without K vs H Q E → vs.length = 3 := prom_len (S := Unit) (Ret := (rIm K)) (As := fun i : (List (Int × Int)) × Int × (List Int) => [.im (pv K i.1), .im (pv K i.2.1), .im (pv K i.2.2)]) (m := fun i => m__law_without i.1 i.2.1 i.2.2) fun _ => rfl
theorem sc__law_without : FnScope ["view", "disks", "gone", "head", "content"] ["view", "disks", "gone"] (defScope (top 80)) := ⟨rfl, rfl, rfl, by decide +kernel, rfl, by decide +kernel, by decide +kernel⟩
theorem fo__law_without {f : Addr} {fd : FuncData} (F : FnP K "_law_without" (top 80) f fd) : FnOk P w K mg base CX0 1 f fd ["view", "disks", "gone"] (sp__law_without K) := by
  refine F.ok sc__law_without (len__law_without (K := K)) (fun cdv A outer s H vs Q E hr h => ?_)
  have hl : vs.length = 3 := len__law_without (K := K) vs H Q E h
  match vs, hl, h with
  | [v0, v1, v2], _, h => exact ⟨_, PSs.nox ((pss_one (ps_ret (pe_lc (own := [("head", 3), ("content", 4)]) rfl sc__law_without.nd (pi_list (L2.pv 0)) (blkOk_by (own := [("head", 3), ("content", 4)]) (N := ["view", "disks", "gone", "head", "content"]) (sc := defScope (top 80)) (by decide +kernel)) (fun _ _ _ _ _ => (pg_tup (n := 2) rfl (pgs_cons (pg_name (i := 3) sc__law_without.nd rfl (Or.inl rfl)) (pgs_cons (pg_name (i := 4) sc__law_without.nd rfl (Or.inl rfl)) pgs_nil)))) (fun _ _ _ _ _ => (pts_one (pt_cmpR op_notIn_seq (pe_op op_mod (L2.pv 3) (L2.pv 1)) (L2.pv 2) (by rfl)))) (fun _ _ _ _ _ => (pe_tup (pa_cons (L2.pv 3) (pa_cons (L2.pv 4) pa_nil)))))))), prom_ok (n := 3) (S := Unit) (Ret := (rIm K)) (As := fun i : (List (Int × Int)) × Int × (List Int) => [.im (pv K i.1), .im (pv K i.2.1), .im (pv K i.2.2)]) (m := fun i => m__law_without i.1 i.2.1 i.2.2) 2 (fun _ => rfl) rfl (fun (view, disks, gone) => (show RN (rIm K) _ (fun (s : Unit) => [.im (pv K view), .im (pv K disks), .im (pv K gone), .no, .no]) (m__law_without view disks gone) (fun (s : Unit) => [.no, .no, .no, .no, .no]) from (rn_of (rt_ret (em_lc (Γx := fun (a584 : (Int × Int)) (s : Unit) => [.im (pv K view), .im (pv K disks), .im (pv K gone), .im (pv K a584.1), .im (pv K a584.2)]) (js := [3, 4]) (im_list fun _ => (ep_var rfl)) (fun _ => rfl) (fun a584 s => (gt_2 (gt_name (Γ := [.im (pv K view), .im (pv K disks), .im (pv K gone), .no, .no]) (i := 3) (Γ' := [.im (pv K view), .im (pv K disks), .im (pv K gone), .im (pv K a584.1), .no]) rfl rfl) (gt_name (Γ := [.im (pv K view), .im (pv K disks), .im (pv K gone), .im (pv K a584.1), .no]) (i := 4) (Γ' := [.im (pv K view), .im (pv K disks), .im (pv K gone), .im (pv K a584.1), .im (pv K a584.2)]) rfl rfl))) rfl (fun a584 => (tm_test (em_opr (g := fun (u : Int) (v : (List Int)) => (!decide (u ∈ v))) (em_opC2 (fun _ => (ep_var rfl)) (fun _ => (ep_var rfl)) fun h => o_mod h) (fun _ => (ep_var rfl)) fun _ => o_notIn))) (fun a584 => (em_pure fun _ => (ep_tup (ap_cons (ep_var rfl) (ap_cons (ep_var rfl) ap_nil)) tup2))) fun a584 s => (.cons (.rfl _) (.cons (.rfl _) (.cons (.rfl _) (.cons (.no _) (.cons (.no _) .nil)))))) fun s => (.cons (.no _) (.cons (.no _) (.cons (.no _) (.cons (.rfl _) (.cons (.rfl _) .nil))))))))) h⟩
theorem ok__law_without {f : Addr} {fd : FuncData} (F : FnP K "_law_without" (top 80) f fd) (hg : mg "_law_without" = some (.ref f)) : Cal P w K mg base 1 "_law_without" ["view", "disks", "gone"] (sp__law_without K) := ⟨f, fd, fo__law_without F, hg, F.kp, F.bindsN fun _ _ _ _ _ _ us hl => match us, hl with | [_, _, _], _ => rfl⟩
def m__law_asked (array : C_Array) (view : (List (Int × Int))) (word : (Tu Int)) (lot : (List Int)) (symbols : Int) (before : Bool) : Mn Unit (Option Bool) :=
  (mb (mu (m__law_rule view symbols)) fun due587 =>
  (moc (mb (mb (mp array) fun x_590 => mb (mb (mb (mp view) fun x => mp (Sq.mk false x)) fun x_588 => mb (mp ()) fun z589 => mp (x_588, z589)) fun z591 => mp (x_590, z591)) fun z592 => (mu (m_told z592.1 z592.2.1)))
  (mb (mp ((!PyData.eqv (Dt.dt (() : Unit)) (Dt.dt ((cond due587 (some lot) (none : (Option (List Int)))) : (Option (List Int))))) || (due587 && decide (before = false)))) fun b => mi b
    (mp ((none : (Option Bool)) : (Option Bool)))
    (mb (mb (mb (mb (mp view) fun x => mp (Sq.mk false x)) fun x_596 => mb (mb (mp array) fun x_594 => mb (mp ()) fun z595 => mp (x_594, z595)) fun z597 => mp (x_596, z597)) fun z598 => (mu (m_mending z598.2.1 z598.1))) fun writes599 =>
  (mb (mu (mb (mb (mu (m__law_writes view word due587)) fun y601 => mp (!decide (writes599 = y601))) fun b611 => mi b611 (mp true) (mb (mb (mb (mp array) fun x_606 => mb (mb (mb (mp view) fun x => mp (Sq.mk false x)) fun x_604 => mb (mb (mb (mp lot) fun x => mp (Sq.mk false x)) fun x_602 => mb (mp ()) fun z603 => mp (x_602, z603)) fun z605 => mp (x_604, z605)) fun z607 => mp (x_606, z607)) fun z608 => (mu (m_can_be_left z608.1 z608.2.1 z608.2.2.1))) fun x_609 => mp (!decide (x_609 = true))))) fun b => mi b
    (mp ((none : (Option Bool)) : (Option Bool)))
    (mb (mb (mp (() : Unit)) fun _ => mc (lenOk writes599.length) ()) fun u_612 =>
  (mb (mb (mp due587) fun b => mi b
    (mb (mbad : Mn Unit Unit) fun u_614 => mp ())
    (mp ())) fun t613 =>
  (mb (mb (mb (mu (m_mending array ((Sq.mk true ((Tu.mk view) : (Tu (Int × Int))).l) : (Sq (Int × Int))))) fun x_615 => mb (mu (m__law_writes view word due587)) fun y616 => mp (!decide (x_615 = y616))) fun b624 => mi b624 (mp true) (mb (mb (mb (mp array) fun x_619 => mb (mb (mb (mp view) fun x => mp (Sq.mk false x)) fun x_617 => mb (mp ()) fun z618 => mp (x_617, z618)) fun z620 => mp (x_619, z620)) fun z621 => (mu (m_told z621.1 z621.2.1))) fun x_622 => mp (!decide (x_622 = (cond due587 (some lot) (none : (Option (List Int)))))))) fun b => mi b
    (mp ((none : (Option Bool)) : (Option Bool)))
    (mp ((some due587) : (Option Bool)))))))))
  fun found593 => (mb (mp ((!decide ((some found593) = (cond due587 (some lot) (none : (Option (List Int)))))) || (due587 && decide (before = false)))) fun b => mi b
    (mp ((none : (Option Bool)) : (Option Bool)))
    (mb (mb (mb (mb (mp view) fun x => mp (Sq.mk false x)) fun x_627 => mb (mb (mp array) fun x_625 => mb (mp ()) fun z626 => mp (x_625, z626)) fun z628 => mp (x_627, z628)) fun z629 => (mu (m_mending z629.2.1 z629.1))) fun writes630 =>
  (mb (mu (mb (mb (mu (m__law_writes view word due587)) fun y632 => mp (!decide (writes630 = y632))) fun b642 => mi b642 (mp true) (mb (mb (mb (mp array) fun x_637 => mb (mb (mb (mp view) fun x => mp (Sq.mk false x)) fun x_635 => mb (mb (mb (mp lot) fun x => mp (Sq.mk false x)) fun x_633 => mb (mp ()) fun z634 => mp (x_633, z634)) fun z636 => mp (x_635, z636)) fun z638 => mp (x_637, z638)) fun z639 => (mu (m_can_be_left z639.1 z639.2.1 z639.2.2.1))) fun x_640 => mp (!decide (x_640 = true))))) fun b => mi b
    (mp ((none : (Option Bool)) : (Option Bool)))
    (mb (mb (mp (() : Unit)) fun _ => mc (lenOk writes630.length) ()) fun u_643 =>
  (mb (mb (mp due587) fun b => mi b
    (mb (mb (mp (() : Unit)) fun _ => mc (lenOk found593.length) ()) fun u_645 => mp ())
    (mp ())) fun t644 =>
  (mb (mb (mb (mu (m_mending array ((Sq.mk true ((Tu.mk view) : (Tu (Int × Int))).l) : (Sq (Int × Int))))) fun x_646 => mb (mu (m__law_writes view word due587)) fun y647 => mp (!decide (x_646 = y647))) fun b655 => mi b655 (mp true) (mb (mb (mb (mp array) fun x_650 => mb (mb (mb (mp view) fun x => mp (Sq.mk false x)) fun x_648 => mb (mp ()) fun z649 => mp (x_648, z649)) fun z651 => mp (x_650, z651)) fun z652 => (mu (m_told z652.1 z652.2.1))) fun x_653 => mp (!decide (x_653 = (cond due587 (some lot) (none : (Option (List Int)))))))) fun b => mi b
    (mp ((none : (Option Bool)) : (Option Bool)))
    (mp ((some due587) : (Option Bool)))))))))))
abbrev sp__law_asked (K : PySem.W.Frag) : Sp := Prom (rIm K) (S := Unit) (fun i : C_Array × (List (Int × Int)) × (Tu Int) × (List Int) × Int × Bool => [.im (pv K i.1), .im (pv K i.2.1), .im (pv K i.2.2.1), .im (pv K i.2.2.2.1), .im (pv K i.2.2.2.2.1), .im (pv K i.2.2.2.2.2)]) fun i => m__law_asked i.1 i.2.1 i.2.2.1 i.2.2.2.1 i.2.2.2.2.1 i.2.2.2.2.2
theorem len__law_asked : ∀ vs H Q E, sp__law_asked K vs H Q E → vs.length = 6 := prom_len (S := Unit) (Ret := (rIm K)) (As := fun i : C_Array × (List (Int × Int)) × (Tu Int) × (List Int) × Int × Bool => [.im (pv K i.1), .im (pv K i.2.1), .im (pv K i.2.2.1), .im (pv K i.2.2.2.1), .im (pv K i.2.2.2.2.1), .im (pv K i.2.2.2.2.2)]) (m := fun i => m__law_asked i.1 i.2.1 i.2.2.1 i.2.2.2.1 i.2.2.2.2.1 i.2.2.2.2.2) fun _ => rfl
theorem sc__law_asked : FnScope ["array", "view", "word", "lot", "symbols", "before", "due", "found", "writes"] ["array", "view", "word", "lot", "symbols", "before"] (defScope (top 81)) := ⟨rfl, rfl, rfl, by decide +kernel, rfl, by decide +kernel, by decide +kernel⟩
theorem fo__law_asked {f : Addr} {fd : FuncData} (F : FnP K "_law_asked" (top 81) f fd) (b_list : mg "list" = none) (b_tuple : mg "tuple" = none) (C__law_rule : Cal P w K mg base 1 "_law_rule" ["view", "symbols"] (sp__law_rule K)) (C_told : Cal P w K mg base 10 "told" ["array", "view"] (sp_told K)) (D_told__array_view : CalK P w K mg base 10 "told" ["array", "view"] (sp_told K) ["array", "view"] gl_told__array_view gv_told__array_view) (C_mending : Cal P w K mg base 11 "mending" ["array", "view"] (sp_mending K)) (D_mending__view_array : CalK P w K mg base 11 "mending" ["array", "view"] (sp_mending K) ["view", "array"] gl_mending__view_array gv_mending__view_array) (C__law_writes : Cal P w K mg base 1 "_law_writes" ["view", "word", "told_lot"] (sp__law_writes K)) (C_can_be_left : Cal P w K mg base 9 "can_be_left" ["array", "view", "lot"] (sp_can_be_left K)) : FnOk P w K mg base CX0 12 f fd ["array", "view", "word", "lot", "symbols", "before"] (sp__law_asked K) := by
  obtain ⟨f__law_rule, fd__law_rule, G__law_rule, g__law_rule, kp__law_rule, bi__law_rule⟩ := C__law_rule.ex
  obtain ⟨f_told, fd_told, G_told, g_told, kp_told, bi_told⟩ := C_told.ex
  obtain ⟨f_told__array_view, fd_told__array_view, G_told__array_view, g_told__array_view, kp_told__array_view, bi_told__array_view⟩ := D_told__array_view.ex
  obtain ⟨f_mending, fd_mending, G_mending, g_mending, kp_mending, bi_mending⟩ := C_mending.ex
  obtain ⟨f_mending__view_array, fd_mending__view_array, G_mending__view_array, g_mending__view_array, kp_mending__view_array, bi_mending__view_array⟩ := D_mending__view_array.ex
  obtain ⟨f__law_writes, fd__law_writes, G__law_writes, g__law_writes, kp__law_writes, bi__law_writes⟩ := C__law_writes.ex
  obtain ⟨f_can_be_left, fd_can_be_left, G_can_be_left, g_can_be_left, kp_can_be_left, bi_can_be_left⟩ := C_can_be_left.ex
  refine F.ok sc__law_asked (len__law_asked (K := K)) (fun cdv A outer s H vs Q E hr h => ?_)
  have hl : vs.length = 6 := len__law_asked (K := K) vs H Q E h
  match vs, hl, h with
  | [v0, v1, v2, v3, v4, v5], _, h => exact ⟨_, PSs.nox ((pss_cons (ps_set (i := 6) sc__law_asked.nd rfl (Or.inl rfl) (pe_call G__law_rule (hr.mono (Nat.le_of_ble_eq_true rfl)) rfl g__law_rule kp__law_rule bi__law_rule .nil pass0 (pa_cons (L2.pv 1) (pa_cons (L2.pv 4) pa_nil)))) (pss_cons (ps_set (i := 7) sc__law_asked.nd rfl (Or.inl rfl) (pe_call G_told (hr.mono (Nat.le_of_ble_eq_true rfl)) rfl g_told kp_told bi_told .nil pass0 (pa_cons (L2.pv 0) (pa_cons (pe_callTy call_list_of rfl b_list bt_list (pa_cons (L2.pv 1) pa_nil)) pa_nil)))) (pss_cons (ps_if (PW.pt (pw_or (pt_cmpR (op_neD (hu64 hr)) (L2.pv 7) (pe_ifExp (pt_val (L2.pv 6)) (L2.pv 3) pe_non) (nomark _)) (pw_or1 (PW.pt (pw_and (pt_val (L2.pv 6)) (pw_and1 (pt_cmpR op_isBl (L2.pv 5) pe_bl (nomark _)))))))) (pss_one (ps_ret pe_non)) pss_nil) (pss_cons (ps_set (i := 8) sc__law_asked.nd rfl (Or.inl rfl) (pe_callK0 G_mending__view_array (hr.mono (Nat.le_of_ble_eq_true rfl)) rfl g_mending__view_array kp_mending__view_array bi_mending__view_array pass0 (pk_cons (pe_callTy call_list_of rfl b_list bt_list (pa_cons (L2.pv 1) pa_nil)) (pk_cons (L2.pv 0) pk_nil)))) (pss_cons (ps_if (PW.pt (pw_or (pt_cmpR (op_neD (hu64 hr)) (L2.pv 8) (pe_call G__law_writes (hr.mono (Nat.le_of_ble_eq_true rfl)) rfl g__law_writes kp__law_writes bi__law_writes .nil pass0 (pa_cons (L2.pv 1) (pa_cons (L2.pv 2) (pa_cons (L2.pv 6) pa_nil)))) (nomark _)) (pw_or1 (pt_cmpR op_notBl (pe_call G_can_be_left (hr.mono (Nat.le_of_ble_eq_true rfl)) rfl g_can_be_left kp_can_be_left bi_can_be_left .nil pass0 (pa_cons (L2.pv 0) (pa_cons (pe_callTy call_list_of rfl b_list bt_list (pa_cons (L2.pv 1) pa_nil)) (pa_cons (pe_callTy call_list_of rfl b_list bt_list (pa_cons (L2.pv 3) pa_nil)) pa_nil)))) pe_bl (nomark _))))) (pss_one (ps_ret pe_non)) pss_nil) (pss_cons (ps_expr (pe_bm PySem.F.plainAttrs_list PySem.F.slot_list_append PySem.F.type_list_append mt_append (L2.pv 8) (pa_cons pe_non pa_nil))) (pss_cons (ps_if (pt_val (L2.pv 6)) (pss_one (ps_expr (pe_bm PySem.F.plainAttrs_list PySem.F.slot_list_append PySem.F.type_list_append mt_append (L2.pv 7) (pa_cons pe_non pa_nil)))) pss_nil) (pss_cons (ps_if (PW.pt (pw_or (pt_cmpR (op_neD (hu64 hr)) (pe_call G_mending (hr.mono (Nat.le_of_ble_eq_true rfl)) rfl g_mending kp_mending bi_mending .nil pass0 (pa_cons (L2.pv 0) (pa_cons (pe_callTy call_tuple_of rfl b_tuple bt_tuple (pa_cons (L2.pv 1) pa_nil)) pa_nil))) (pe_call G__law_writes (hr.mono (Nat.le_of_ble_eq_true rfl)) rfl g__law_writes kp__law_writes bi__law_writes .nil pass0 (pa_cons (L2.pv 1) (pa_cons (L2.pv 2) (pa_cons (L2.pv 6) pa_nil)))) (nomark _)) (pw_or1 (pt_cmpR (op_neD (hu64 hr)) (pe_callK0 G_told__array_view (hr.mono (Nat.le_of_ble_eq_true rfl)) rfl g_told__array_view kp_told__array_view bi_told__array_view pass0 (pk_cons (L2.pv 0) (pk_cons (pe_callTy call_list_of rfl b_list bt_list (pa_cons (L2.pv 1) pa_nil)) pk_nil))) (pe_ifExp (pt_val (L2.pv 6)) (L2.pv 3) pe_non) (nomark _))))) (pss_one (ps_ret pe_non)) pss_nil) (pss_one (ps_ret (L2.pv 6)))))))))))), prom_ok (n := 6) (S := Unit) (Ret := (rIm K)) (As := fun i : C_Array × (List (Int × Int)) × (Tu Int) × (List Int) × Int × Bool => [.im (pv K i.1), .im (pv K i.2.1), .im (pv K i.2.2.1), .im (pv K i.2.2.2.1), .im (pv K i.2.2.2.2.1), .im (pv K i.2.2.2.2.2)]) (m := fun i => m__law_asked i.1 i.2.1 i.2.2.1 i.2.2.2.1 i.2.2.2.2.1 i.2.2.2.2.2) 3 (fun _ => rfl) rfl (fun (array, view, word, lot, symbols, before) => (show RN (rIm K) _ (fun (s : Unit) => [.im (pv K array), .im (pv K view), .im (pv K word), .im (pv K lot), .im (pv K symbols), .im (pv K before), .no, .no, .no]) (m__law_asked array view word lot symbols before) (fun (s : Unit) => [.no, .no, .no, .no, .no, .no, .no, .no, .no]) from (rn_of (rt_seq (rp_asg (Γ := fun (s : Unit) => [.im (pv K array), .im (pv K view), .im (pv K word), .im (pv K lot), .im (pv K symbols), .im (pv K before), .no, .no, .no]) (i := 6) (Γ' := fun due587 (s : Unit) => [.im (pv K array), .im (pv K view), .im (pv K word), .im (pv K lot), .im (pv K symbols), .im (pv K before), .im (pv K due587), .no, .no]) (em_of_eo (eo_call0 (i := (view, symbols)) (ps := [pv K view, pv K symbols]) (fun _ => (ap_cons (ep_var rfl) (ap_cons (ep_var rfl) ap_nil))) rfl)) (fun _ => rfl) fun _ _ => rfl) fun due587 => (rt_splitO (Γ := (fun (s : Unit) => [.im (pv K array), .im (pv K view), .im (pv K word), .im (pv K lot), .im (pv K symbols), .im (pv K before), .im (pv K due587), .no, .no])) (i := 7) (Γ0 := (fun (s : Unit) => [.im (pv K array), .im (pv K view), .im (pv K word), .im (pv K lot), .im (pv K symbols), .im (pv K before), .im (pv K due587), .im (pv K (() : Unit)), .no])) (Γs := fun found593 (s : Unit) => [.im (pv K array), .im (pv K view), .im (pv K word), .im (pv K lot), .im (pv K symbols), .im (pv K before), .im (pv K due587), .ow (ol K found593), .no]) (eo_call0M (f := fun (z592 : C_Array × (Sq (Int × Int)) × Unit) => (z592.1, z592.2.1)) (am_cons (em_pure fun _ => (ep_var rfl)) (am_cons (em_sqL (em_ownL (eo_listL fun _ => ap_cons (ep_var rfl) ap_nil))) am_nil)) fun _ => rfl) (fun _ => rfl) (fun _ => Nat.le_of_ble_eq_true rfl) (fun _ => rfl) (fun _ _ => rfl) (rt_ifr (tm_pure fun _ => (tp_or (tp_test (ep_op (ep_var rfl) (ep_if (tp_B (ep_var rfl)) (fun _ => (ep_someN (ep_var rfl))) fun _ => ep_nonO) (o_neDh (Nat.le_of_ble_eq_true rfl) (Nat.le_of_ble_eq_true rfl)))) fun _ => (tp_and (tp_B (ep_var rfl)) fun _ => (tp_test (ep_op (ep_var rfl) (ep_bl (K := K)) o_isB))))) (rt_ret (em_pure fun _ => ep_nonO) fun s => (.cons (.no _) (.cons (.no _) (.cons (.no _) (.cons (.no _) (.cons (.no _) (.cons (.no _) (.cons (.no _) (.cons (.no _) (.cons (.rfl _) .nil)))))))))) (rt_seq (rp_take (Γ := fun (s : Unit) => [.im (pv K array), .im (pv K view), .im (pv K word), .im (pv K lot), .im (pv K symbols), .im (pv K before), .im (pv K due587), .im (pv K (() : Unit)), .no]) (i := 8) (Γ' := fun writes599 (s : Unit) => [.im (pv K array), .im (pv K view), .im (pv K word), .im (pv K lot), .im (pv K symbols), .im (pv K before), .im (pv K due587), .im (pv K (() : Unit)), .ow (ol K writes599)]) (eo_callKM (f := fun (z598 : (Sq (Int × Int)) × C_Array × Unit) => (z598.2.1, z598.1)) (qsf := fun (z598 : (Sq (Int × Int)) × C_Array × Unit) => [pv K z598.2.1, pv K z598.1]) (am_cons (em_sqL (em_ownL (eo_listL fun _ => ap_cons (ep_var rfl) ap_nil))) (am_cons (em_pure fun _ => (ep_var rfl)) am_nil)) (by intro z598 I vs h; obtain ⟨_, _, rfl, r0, h⟩ := all2_c h; obtain ⟨_, _, rfl, r1, h⟩ := all2_c h; cases all2_n h; exact (.cons r1 (.cons r0 .nil))) fun _ => rfl) (fun _ => rfl) (fun _ => Nat.le_of_ble_eq_true rfl) fun _ _ => rfl) fun writes599 => (rt_ifr (tm_bor (Γ0 := [.im (pv K array), .im (pv K view), .im (pv K word), .im (pv K lot), .im (pv K symbols), .im (pv K before), .im (pv K due587), .im (pv K (() : Unit)), .im (pv K writes599)]) (fun _ => (.cons (.rfl _) (.cons (.rfl _) (.cons (.rfl _) (.cons (.rfl _) (.cons (.rfl _) (.cons (.rfl _) (.cons (.rfl _) (.cons (.rfl _) (.cons (.fr fr_ol) .nil)))))))))) rfl (tm_or (tm_test (em_opl (g := fun (u : (List (Int × Int))) (v : (List (Int × Int))) => (!decide (u = v))) (fun _ => (ep_var rfl)) (em_ownL (eo_call0 (i := (view, word, due587)) (ps := [pv K view, pv K word, pv K due587]) (fun _ => (ap_cons (ep_var rfl) (ap_cons (ep_var rfl) (ap_cons (ep_var rfl) ap_nil)))) rfl)) fun _ => (o_neDt (Nat.le_of_ble_eq_true rfl)))) (tm_test (em_opr (g := fun (u : Bool) (v : Bool) => (!decide (u = v))) (em_of_eo (eo_call0M (f := fun (z608 : C_Array × (Sq (Int × Int)) × (Sq Int) × Unit) => (z608.1, z608.2.1, z608.2.2.1)) (am_cons (em_pure fun _ => (ep_var rfl)) (am_cons (em_sqL (em_ownL (eo_listL fun _ => ap_cons (ep_var rfl) ap_nil))) (am_cons (em_sqL (em_ownL (eo_listL fun _ => ap_cons (ep_var rfl) ap_nil))) am_nil))) fun _ => rfl)) (fun _ => (ep_bl (K := K))) fun _ => o_notB)))) (rt_ret (em_pure fun _ => ep_nonO) fun s => (.cons (.no _) (.cons (.no _) (.cons (.no _) (.cons (.no _) (.cons (.no _) (.cons (.no _) (.cons (.no _) (.cons (.no _) (.cons (.drop _) .nil)))))))))) (rt_seq (rp_appN (Γ' := fun (s : Unit) => [.im (pv K array), .im (pv K view), .im (pv K word), .im (pv K lot), .im (pv K symbols), .im (pv K before), .im (pv K due587), .im (pv K (() : Unit)), .no]) (fun _ => rfl) (em_pure fun _ => (ep_non (K := K))) fun _ => rfl) fun u_612 => (rt_seq (rp_if (Γ' := fun t613 (s : Unit) => [.im (pv K array), .im (pv K view), .im (pv K word), .im (pv K lot), .im (pv K symbols), .im (pv K before), .im (pv K due587), .im (pv K (() : Unit)), .no]) (tm_pure fun _ => (tp_B (ep_var rfl))) (rp_post (f := fun u_614 => ()) (rp_bad (Γ' := fun (_ : Unit) (s : Unit) => [.im (pv K array), .im (pv K view), .im (pv K word), .im (pv K lot), .im (pv K symbols), .im (pv K before), .im (pv K due587), .im (pv K (() : Unit)), .no])) fun u_614 s => (.cons (.rfl _) (.cons (.rfl _) (.cons (.rfl _) (.cons (.rfl _) (.cons (.rfl _) (.cons (.rfl _) (.cons (.rfl _) (.cons (.rfl _) (.cons (.rfl _) .nil)))))))))) (rp_next (x := ()) fun s => (.cons (.rfl _) (.cons (.rfl _) (.cons (.rfl _) (.cons (.rfl _) (.cons (.rfl _) (.cons (.rfl _) (.cons (.rfl _) (.cons (.rfl _) (.cons (.rfl _) .nil))))))))))) fun t613 => (rt_ifr (tm_or (tm_test (em_op (g := fun (u : (List (Int × Int))) (v : (List (Int × Int))) => (!decide (u = v))) (em_ownL (eo_call0 (i := (array, ((Sq.mk true ((Tu.mk view) : (Tu (Int × Int))).l) : (Sq (Int × Int))))) (ps := [pv K array, pv K ((Sq.mk true ((Tu.mk view) : (Tu (Int × Int))).l) : (Sq (Int × Int)))]) (fun _ => (ap_cons (ep_var rfl) (ap_cons (ep_sqT (ep_cb (ap_cons (ep_var rfl) ap_nil) c_tupL)) ap_nil))) rfl)) (em_ownL (eo_call0 (i := (view, word, due587)) (ps := [pv K view, pv K word, pv K due587]) (fun _ => (ap_cons (ep_var rfl) (ap_cons (ep_var rfl) (ap_cons (ep_var rfl) ap_nil)))) rfl)) fun _ _ => (o_neDt (Nat.le_of_ble_eq_true rfl)))) (tm_test (em_opr (g := fun (u : (Option (List Int))) (v : (Option (List Int))) => (!decide (u = v))) (em_ownO (eo_callKM (f := fun (z621 : C_Array × (Sq (Int × Int)) × Unit) => (z621.1, z621.2.1)) (qsf := fun (z621 : C_Array × (Sq (Int × Int)) × Unit) => [pv K z621.1, pv K z621.2.1]) (am_cons (em_pure fun _ => (ep_var rfl)) (am_cons (em_sqL (em_ownL (eo_listL fun _ => ap_cons (ep_var rfl) ap_nil))) am_nil)) (by intro z621 I vs h; obtain ⟨_, _, rfl, r0, h⟩ := all2_c h; obtain ⟨_, _, rfl, r1, h⟩ := all2_c h; cases all2_n h; exact (.cons r0 (.cons r1 .nil))) fun _ => rfl)) (fun _ => (ep_if (tp_B (ep_var rfl)) (fun _ => (ep_someN (ep_var rfl))) fun _ => ep_nonO)) fun _ => (o_neDt (Nat.le_of_ble_eq_true rfl))))) (rt_ret (em_pure fun _ => ep_nonO) fun s => (.cons (.no _) (.cons (.no _) (.cons (.no _) (.cons (.no _) (.cons (.no _) (.cons (.no _) (.cons (.no _) (.cons (.no _) (.cons (.rfl _) .nil)))))))))) (rt_ret (em_pure fun _ => (ep_someN (ep_var rfl))) fun s => (.cons (.no _) (.cons (.no _) (.cons (.no _) (.cons (.no _) (.cons (.no _) (.cons (.no _) (.cons (.no _) (.cons (.no _) (.cons (.rfl _) .nil)))))))))))))))) fun found593 => (rt_ifr (tm_pure fun _ => (tp_bor (Γ0 := [.im (pv K array), .im (pv K view), .im (pv K word), .im (pv K lot), .im (pv K symbols), .im (pv K before), .im (pv K due587), .im (pv K found593), .no]) (.cons (.rfl _) (.cons (.rfl _) (.cons (.rfl _) (.cons (.rfl _) (.cons (.rfl _) (.cons (.rfl _) (.cons (.rfl _) (.cons (.fr fr_ol) (.cons (.rfl _) .nil))))))))) rfl (tp_or (tp_test (ep_op (ep_someN (ep_var rfl)) (ep_if (tp_B (ep_var rfl)) (fun _ => (ep_someN (ep_var rfl))) fun _ => ep_nonO) (o_neDt (Nat.le_of_ble_eq_true rfl)))) fun _ => (tp_and (tp_B (ep_var rfl)) fun _ => (tp_test (ep_op (ep_var rfl) (ep_bl (K := K)) o_isB)))))) (rt_ret (em_pure fun _ => ep_nonO) fun s => (.cons (.no _) (.cons (.no _) (.cons (.no _) (.cons (.no _) (.cons (.no _) (.cons (.no _) (.cons (.no _) (.cons (.drop _) (.cons (.rfl _) .nil)))))))))) (rt_seq (rp_take (Γ := fun (s : Unit) => [.im (pv K array), .im (pv K view), .im (pv K word), .im (pv K lot), .im (pv K symbols), .im (pv K before), .im (pv K due587), .ow (ol K found593), .no]) (i := 8) (Γ' := fun writes630 (s : Unit) => [.im (pv K array), .im (pv K view), .im (pv K word), .im (pv K lot), .im (pv K symbols), .im (pv K before), .im (pv K due587), .ow (ol K found593), .ow (ol K writes630)]) (eo_callKM (f := fun (z629 : (Sq (Int × Int)) × C_Array × Unit) => (z629.2.1, z629.1)) (qsf := fun (z629 : (Sq (Int × Int)) × C_Array × Unit) => [pv K z629.2.1, pv K z629.1]) (am_cons (em_sqL (em_ownL (eo_listL fun _ => ap_cons (ep_var rfl) ap_nil))) (am_cons (em_pure fun _ => (ep_var rfl)) am_nil)) (by intro z629 I vs h; obtain ⟨_, _, rfl, r0, h⟩ := all2_c h; obtain ⟨_, _, rfl, r1, h⟩ := all2_c h; cases all2_n h; exact (.cons r1 (.cons r0 .nil))) fun _ => rfl) (fun _ => rfl) (fun _ => Nat.le_of_ble_eq_true rfl) fun _ _ => rfl) fun writes630 => (rt_ifr (tm_bor (Γ0 := [.im (pv K array), .im (pv K view), .im (pv K word), .im (pv K lot), .im (pv K symbols), .im (pv K before), .im (pv K due587), .im (pv K found593), .im (pv K writes630)]) (fun _ => (.cons (.rfl _) (.cons (.rfl _) (.cons (.rfl _) (.cons (.rfl _) (.cons (.rfl _) (.cons (.rfl _) (.cons (.rfl _) (.cons (.fr fr_ol) (.cons (.fr fr_ol) .nil)))))))))) rfl (tm_or (tm_test (em_opl (g := fun (u : (List (Int × Int))) (v : (List (Int × Int))) => (!decide (u = v))) (fun _ => (ep_var rfl)) (em_ownL (eo_call0 (i := (view, word, due587)) (ps := [pv K view, pv K word, pv K due587]) (fun _ => (ap_cons (ep_var rfl) (ap_cons (ep_var rfl) (ap_cons (ep_var rfl) ap_nil)))) rfl)) fun _ => (o_neDt (Nat.le_of_ble_eq_true rfl)))) (tm_test (em_opr (g := fun (u : Bool) (v : Bool) => (!decide (u = v))) (em_of_eo (eo_call0M (f := fun (z639 : C_Array × (Sq (Int × Int)) × (Sq Int) × Unit) => (z639.1, z639.2.1, z639.2.2.1)) (am_cons (em_pure fun _ => (ep_var rfl)) (am_cons (em_sqL (em_ownL (eo_listL fun _ => ap_cons (ep_var rfl) ap_nil))) (am_cons (em_sqL (em_ownL (eo_listL fun _ => ap_cons (ep_var rfl) ap_nil))) am_nil))) fun _ => rfl)) (fun _ => (ep_bl (K := K))) fun _ => o_notB)))) (rt_ret (em_pure fun _ => ep_nonO) fun s => (.cons (.no _) (.cons (.no _) (.cons (.no _) (.cons (.no _) (.cons (.no _) (.cons (.no _) (.cons (.no _) (.cons (.drop _) (.cons (.drop _) .nil)))))))))) (rt_seq (rp_appN (Γ' := fun (s : Unit) => [.im (pv K array), .im (pv K view), .im (pv K word), .im (pv K lot), .im (pv K symbols), .im (pv K before), .im (pv K due587), .ow (ol K found593), .no]) (fun _ => rfl) (em_pure fun _ => (ep_non (K := K))) fun _ => rfl) fun u_643 => (rt_seq (rp_if (Γ' := fun t644 (s : Unit) => [.im (pv K array), .im (pv K view), .im (pv K word), .im (pv K lot), .im (pv K symbols), .im (pv K before), .im (pv K due587), .no, .no]) (tm_pure fun _ => (tp_B (ep_var rfl))) (rp_post (f := fun u_645 => ()) (rp_appN (Γ' := fun (s : Unit) => [.im (pv K array), .im (pv K view), .im (pv K word), .im (pv K lot), .im (pv K symbols), .im (pv K before), .im (pv K due587), .no, .no]) (fun _ => rfl) (em_pure fun _ => (ep_non (K := K))) fun _ => rfl) fun u_645 s => (.cons (.rfl _) (.cons (.rfl _) (.cons (.rfl _) (.cons (.rfl _) (.cons (.rfl _) (.cons (.rfl _) (.cons (.rfl _) (.cons (.rfl _) (.cons (.rfl _) .nil)))))))))) (rp_next (x := ()) fun s => (.cons (.rfl _) (.cons (.rfl _) (.cons (.rfl _) (.cons (.rfl _) (.cons (.rfl _) (.cons (.rfl _) (.cons (.rfl _) (.cons (.drop _) (.cons (.rfl _) .nil))))))))))) fun t644 => (rt_ifr (tm_or (tm_test (em_op (g := fun (u : (List (Int × Int))) (v : (List (Int × Int))) => (!decide (u = v))) (em_ownL (eo_call0 (i := (array, ((Sq.mk true ((Tu.mk view) : (Tu (Int × Int))).l) : (Sq (Int × Int))))) (ps := [pv K array, pv K ((Sq.mk true ((Tu.mk view) : (Tu (Int × Int))).l) : (Sq (Int × Int)))]) (fun _ => (ap_cons (ep_var rfl) (ap_cons (ep_sqT (ep_cb (ap_cons (ep_var rfl) ap_nil) c_tupL)) ap_nil))) rfl)) (em_ownL (eo_call0 (i := (view, word, due587)) (ps := [pv K view, pv K word, pv K due587]) (fun _ => (ap_cons (ep_var rfl) (ap_cons (ep_var rfl) (ap_cons (ep_var rfl) ap_nil)))) rfl)) fun _ _ => (o_neDt (Nat.le_of_ble_eq_true rfl)))) (tm_test (em_opr (g := fun (u : (Option (List Int))) (v : (Option (List Int))) => (!decide (u = v))) (em_ownO (eo_callKM (f := fun (z652 : C_Array × (Sq (Int × Int)) × Unit) => (z652.1, z652.2.1)) (qsf := fun (z652 : C_Array × (Sq (Int × Int)) × Unit) => [pv K z652.1, pv K z652.2.1]) (am_cons (em_pure fun _ => (ep_var rfl)) (am_cons (em_sqL (em_ownL (eo_listL fun _ => ap_cons (ep_var rfl) ap_nil))) am_nil)) (by intro z652 I vs h; obtain ⟨_, _, rfl, r0, h⟩ := all2_c h; obtain ⟨_, _, rfl, r1, h⟩ := all2_c h; cases all2_n h; exact (.cons r0 (.cons r1 .nil))) fun _ => rfl)) (fun _ => (ep_if (tp_B (ep_var rfl)) (fun _ => (ep_someN (ep_var rfl))) fun _ => ep_nonO)) fun _ => (o_neDt (Nat.le_of_ble_eq_true rfl))))) (rt_ret (em_pure fun _ => ep_nonO) fun s => (.cons (.no _) (.cons (.no _) (.cons (.no _) (.cons (.no _) (.cons (.no _) (.cons (.no _) (.cons (.no _) (.cons (.rfl _) (.cons (.rfl _) .nil)))))))))) (rt_ret (em_pure fun _ => (ep_someN (ep_var rfl))) fun s => (.cons (.no _) (.cons (.no _) (.cons (.no _) (.cons (.no _) (.cons (.no _) (.cons (.no _) (.cons (.no _) (.cons (.rfl _) (.cons (.rfl _) .nil))))))))))))))))))))) h⟩
theorem ok__law_asked {f : Addr} {fd : FuncData} (F : FnP K "_law_asked" (top 81) f fd) (hg : mg "_law_asked" = some (.ref f)) (b_list : mg "list" = none) (b_tuple : mg "tuple" = none) (C__law_rule : Cal P w K mg base 1 "_law_rule" ["view", "symbols"] (sp__law_rule K)) (C_told : Cal P w K mg base 10 "told" ["array", "view"] (sp_told K)) (D_told__array_view : CalK P w K mg base 10 "told" ["array", "view"] (sp_told K) ["array", "view"] gl_told__array_view gv_told__array_view) (C_mending : Cal P w K mg base 11 "mending" ["array", "view"] (sp_mending K)) (D_mending__view_array : CalK P w K mg base 11 "mending" ["array", "view"] (sp_mending K) ["view", "array"] gl_mending__view_array gv_mending__view_array) (C__law_writes : Cal P w K mg base 1 "_law_writes" ["view", "word", "told_lot"] (sp__law_writes K)) (C_can_be_left : Cal P w K mg base 9 "can_be_left" ["array", "view", "lot"] (sp_can_be_left K)) : Cal P w K mg base 12 "_law_asked" ["array", "view", "word", "lot", "symbols", "before"] (sp__law_asked K) := ⟨f, fd, fo__law_asked F b_list b_tuple C__law_rule C_told D_told__array_view C_mending D_mending__view_array C__law_writes C_can_be_left, hg, F.kp, F.bindsN fun _ _ _ _ _ _ us hl => match us, hl with | [_, _, _, _, _, _], _ => rfl⟩
def m__law_parts_right (box : Ref) (array : C_Array) (view : (List (Int × Int))) (lot : (List Int)) (symbols : Int) (due : Bool) : Mn (Sto K) Bool :=
  (mb (mb (mc (b62 ((3 : Int) : Int)) (rng 0 ((3 : Int) : Int).toNat)) fun xs => forC (β := Empty) xs () fun a657 (t656 : Unit) =>
    (mb (mp view) fun part658 =>
    (mb (mb (mb (mb (mb (mb (mp (decide ((symbols + (1 : Int)) < ((view.length : Nat) : Int)))) fun b665 => mi b665 (mb (mb (mp box) fun x_662 => mb (mb (mp ((2 : Int) : Int)) fun x_660 => mb (mp ()) fun z661 => mp (x_660, z661)) fun z663 => mp (x_662, z663)) fun z664 => (m__law_take z664.1 z664.2.1)) (mp ((0 : Int) : Int))) fun y667 => mp (((((view.length : Nat) : Int) - symbols) - (1 : Int)) - y667)) fun x_668 => mb (mp ()) fun z669 => mp (x_668, z669)) fun z670 => mc (b62 z670.1) (rng 0 z670.1.toNat)) fun xs => forP xs part658 fun a671 (t659 : (List (Int × Int))) =>
    (mb (mb (mb (mb (mp box) fun x_674 => mb (mb (mp (((t659.length : Nat) : Int) : Int)) fun x_672 => mb (mp ()) fun z673 => mp (x_672, z673)) fun z675 => mp (x_674, z675)) fun z676 => (m__law_take z676.1 z676.2.1)) fun i678 => mo (popAt t659 i678)) fun part677 => mp part677)) fun t679 =>
    (mb (mu (mb (mb (mu (m_told array ((Sq.mk false t679) : (Sq (Int × Int))))) fun x_680 => mp (!decide (x_680 = (cond due (some lot) (none : (Option (List Int))))))) fun b684 => mi b684 (mp true) (mb (mu (m_mending array ((Sq.mk false t679) : (Sq (Int × Int))))) fun x_682 => mp (!decide (x_682 = ([] : (List (Int × Int)))))))) fun b => mi b
      (mb (mp false) fun x => mp (.rt x))
      (mp (.nx ())))))) (ctk (fun t685 => (mp true)) fun _ => mbad))
abbrev sp__law_parts_right (K : PySem.W.Frag) : Sp := Prom (rIm K) (S := (Sto K)) (fun i : Ref × C_Array × (List (Int × Int)) × (List Int) × Int × Bool => [.im (pv K i.1), .im (pv K i.2.1), .im (pv K i.2.2.1), .im (pv K i.2.2.2.1), .im (pv K i.2.2.2.2.1), .im (pv K i.2.2.2.2.2)]) fun i => m__law_parts_right i.1 i.2.1 i.2.2.1 i.2.2.2.1 i.2.2.2.2.1 i.2.2.2.2.2
theorem len__law_parts_right : ∀ vs H Q E, sp__law_parts_right K vs H Q E → vs.length = 6 := prom_len (S := (Sto K)) (Ret := (rIm K)) (As := fun i : Ref × C_Array × (List (Int × Int)) × (List Int) × Int × Bool => [.im (pv K i.1), .im (pv K i.2.1), .im (pv K i.2.2.1), .im (pv K i.2.2.2.1), .im (pv K i.2.2.2.2.1), .im (pv K i.2.2.2.2.2)]) (m := fun i => m__law_parts_right i.1 i.2.1 i.2.2.1 i.2.2.2.1 i.2.2.2.2.1 i.2.2.2.2.2) fun _ => rfl
theorem sc__law_parts_right : FnScope ["box", "array", "view", "lot", "symbols", "due", "turn", "part", "k"] ["box", "array", "view", "lot", "symbols", "due"] (defScope (top 82)) := ⟨rfl, rfl, rfl, by decide +kernel, rfl, by decide +kernel, by decide +kernel⟩
theorem fo__law_parts_right {f : Addr} {fd : FuncData} (F : FnP K "_law_parts_right" (top 82) f fd) (b_len : mg "len" = none) (b_list : mg "list" = none) (b_range : mg "range" = none) (C__law_take : Cal P w K mg base 1 "_law_take" ["box", "many"] (sp__law_take K)) (C_told : Cal P w K mg base 10 "told" ["array", "view"] (sp_told K)) (C_mending : Cal P w K mg base 11 "mending" ["array", "view"] (sp_mending K)) : FnOk P w K mg base CX0 12 f fd ["box", "array", "view", "lot", "symbols", "due"] (sp__law_parts_right K) := by
  obtain ⟨f__law_take, fd__law_take, G__law_take, g__law_take, kp__law_take, bi__law_take⟩ := C__law_take.ex
  obtain ⟨f_told, fd_told, G_told, g_told, kp_told, bi_told⟩ := C_told.ex
  obtain ⟨f_mending, fd_mending, G_mending, g_mending, kp_mending, bi_mending⟩ := C_mending.ex
  refine F.ok sc__law_parts_right (len__law_parts_right (K := K)) (fun cdv A outer s H vs Q E hr h => ?_)
  have hl : vs.length = 6 := len__law_parts_right (K := K) vs H Q E h
  match vs, hl, h with
  | [v0, v1, v2, v3, v4, v5], _, h => exact ⟨_, PSs.nox ((pss_cons (ps_for PassesOwn.never rfl (pi_range1 rfl b_range (pa_cons pe_int pa_nil)) (pg_name (i := 6) sc__law_parts_right.nd rfl (Or.inl rfl)) (pss_cons (ps_set (i := 7) sc__law_parts_right.nd rfl (Or.inl rfl) (pe_callTy call_list_of rfl b_list bt_list (pa_cons (L2.pv 2) pa_nil))) (pss_cons (ps_for PassesOwn.never rfl (pi_range1 rfl b_range (pa_cons (pe_op op_sub (pe_op op_sub (pe_op op_sub (pe_callB call_len_seq rfl b_len bt_len (pa_cons (L2.pv 2) pa_nil)) (L2.pv 4)) pe_int) (pe_ifExp (pt_cmpR op_gt (pe_callB call_len_seq rfl b_len bt_len (pa_cons (L2.pv 2) pa_nil)) (pe_op op_add (L2.pv 4) pe_int) (nomark _)) (pe_call G__law_take (hr.mono (Nat.le_of_ble_eq_true rfl)) rfl g__law_take kp__law_take bi__law_take .nil pass0 (pa_cons (L2.pv 0) (pa_cons pe_int pa_nil))) pe_int)) pa_nil)) (pg_name (i := 8) sc__law_parts_right.nd rfl (Or.inl rfl)) (pss_one (ps_expr (pe_bm PySem.F.plainAttrs_list PySem.F.slot_list_pop PySem.F.type_list_pop mt_popAt (L2.pv 7) (pa_cons (pe_call G__law_take (hr.mono (Nat.le_of_ble_eq_true rfl)) rfl g__law_take kp__law_take bi__law_take .nil pass0 (pa_cons (L2.pv 0) (pa_cons (pe_callB call_len_seq rfl b_len bt_len (pa_cons (L2.pv 7) pa_nil)) pa_nil))) pa_nil))))) (pss_one (ps_if (PW.pt (pw_or (pt_cmpR (op_neD (hu64 hr)) (pe_call G_told (hr.mono (Nat.le_of_ble_eq_true rfl)) rfl g_told kp_told bi_told .nil pass0 (pa_cons (L2.pv 1) (pa_cons (L2.pv 7) pa_nil))) (pe_ifExp (pt_val (L2.pv 5)) (L2.pv 3) pe_non) (nomark _)) (pw_or1 (pt_cmpR (op_neD (hu64 hr)) (pe_call G_mending (hr.mono (Nat.le_of_ble_eq_true rfl)) rfl g_mending kp_mending bi_mending .nil pass0 (pa_cons (L2.pv 1) (pa_cons (L2.pv 7) pa_nil))) (pe_lst pa_nil) (nomark _))))) (pss_one (ps_ret pe_bl)) pss_nil))))) (pss_one (ps_ret pe_bl)))), prom_ok (n := 6) (S := (Sto K)) (Ret := (rIm K)) (As := fun i : Ref × C_Array × (List (Int × Int)) × (List Int) × Int × Bool => [.im (pv K i.1), .im (pv K i.2.1), .im (pv K i.2.2.1), .im (pv K i.2.2.2.1), .im (pv K i.2.2.2.2.1), .im (pv K i.2.2.2.2.2)]) (m := fun i => m__law_parts_right i.1 i.2.1 i.2.2.1 i.2.2.2.1 i.2.2.2.2.1 i.2.2.2.2.2) 3 (fun _ => rfl) rfl (fun (box, array, view, lot, symbols, due) => (show RN (rIm K) _ (fun (s : (Sto K)) => [.im (pv K box), .im (pv K array), .im (pv K view), .im (pv K lot), .im (pv K symbols), .im (pv K due), .no, .no, .no]) (m__law_parts_right box array view lot symbols due) (fun (s : (Sto K)) => [.no, .no, .no, .no, .no, .no, .no, .no, .no]) from (rn_of (rt_seqC (rc_for (β := Empty) (Γb := fun b _ => nomatch b) (Γr := (fun (s : (Sto K)) => [.no, .no, .no, .no, .no, .no, .no, .no, .no])) (ΓL := fun (t656 : Unit) (s : (Sto K)) => [.im (pv K box), .im (pv K array), .im (pv K view), .im (pv K lot), .im (pv K symbols), .im (pv K due), .no, .no, .no]) (Γx := fun (a657 : Int) (t656 : Unit) (s : (Sto K)) => [.im (pv K box), .im (pv K array), .im (pv K view), .im (pv K lot), .im (pv K symbols), .im (pv K due), .im (pv K a657), .no, .no]) (im_rng1 fun _ => (ap_cons (ep_int (K := K)) ap_nil)) (fun s => (.cons (.rfl _) (.cons (.rfl _) (.cons (.rfl _) (.cons (.rfl _) (.cons (.rfl _) (.cons (.rfl _) (.cons (.rfl _) (.cons (.rfl _) (.cons (.rfl _) .nil)))))))))) (fun a657 t656 s => (gt_name (Γ := [.im (pv K box), .im (pv K array), .im (pv K view), .im (pv K lot), .im (pv K symbols), .im (pv K due), .no, .no, .no]) (i := 6) (Γ' := [.im (pv K box), .im (pv K array), .im (pv K view), .im (pv K lot), .im (pv K symbols), .im (pv K due), .im (pv K a657), .no, .no]) rfl rfl)) fun a657 t656 => (rc_seqP (rp_take (Γ := fun (s : (Sto K)) => [.im (pv K box), .im (pv K array), .im (pv K view), .im (pv K lot), .im (pv K symbols), .im (pv K due), .im (pv K a657), .no, .no]) (i := 7) (Γ' := fun part658 (s : (Sto K)) => [.im (pv K box), .im (pv K array), .im (pv K view), .im (pv K lot), .im (pv K symbols), .im (pv K due), .im (pv K a657), .ow (ol K part658), .no]) (eo_listL fun _ => ap_cons (ep_var rfl) ap_nil) (fun _ => rfl) (fun _ => Nat.le_of_ble_eq_true rfl) fun _ _ => rfl) fun part658 => (rc_seqP (rp_for (ΓL := fun (t659 : (List (Int × Int))) (s : (Sto K)) => [.im (pv K box), .im (pv K array), .im (pv K view), .im (pv K lot), .im (pv K symbols), .im (pv K due), .im (pv K a657), .ow (ol K t659), .no]) (Γx := fun (a671 : Int) (t659 : (List (Int × Int))) (s : (Sto K)) => [.im (pv K box), .im (pv K array), .im (pv K view), .im (pv K lot), .im (pv K symbols), .im (pv K due), .im (pv K a657), .ow (ol K t659), .im (pv K a671)]) (im_rng1M (f := fun (z670 : Int × Unit) => z670.1) (am_cons (em_opl (g := fun (u : Int) (v : Int) => (u - v)) (fun _ => (ep_op (ep_op (ep_cb (ap_cons (ep_var rfl) ap_nil) c_lenL) (ep_var rfl) o_sub) (ep_int (K := K)) o_sub)) (em_if (tm_pure fun _ => (tp_test (ep_op (ep_cb (ap_cons (ep_var rfl) ap_nil) c_lenL) (ep_op (ep_var rfl) (ep_int (K := K)) o_add) o_gt))) (em_of_eo (eo_callS (f := fun (z664 : Ref × Int × Unit) => (z664.1, z664.2.1)) (am_cons (em_pure fun _ => (ep_var rfl)) (am_cons (em_pure fun _ => (ep_int (K := K))) am_nil)) (fun _ _ => rfl) fun _ _ => rfl)) (em_pure fun _ => (ep_int (K := K)))) fun _ => o_sub) am_nil)) (fun s => (.cons (.rfl _) (.cons (.rfl _) (.cons (.rfl _) (.cons (.rfl _) (.cons (.rfl _) (.cons (.rfl _) (.cons (.rfl _) (.cons (.rfl _) (.cons (.rfl _) .nil)))))))))) (fun a671 t659 s => (gt_name (Γ := [.im (pv K box), .im (pv K array), .im (pv K view), .im (pv K lot), .im (pv K symbols), .im (pv K due), .im (pv K a657), .ow (ol K t659), .no]) (i := 8) (Γ' := [.im (pv K box), .im (pv K array), .im (pv K view), .im (pv K lot), .im (pv K symbols), .im (pv K due), .im (pv K a657), .ow (ol K t659), .im (pv K a671)]) rfl rfl)) fun a671 t659 => (rp_post (f := fun part677 => part677) (rp_popD (Γ' := fun part677 (s : (Sto K)) => [.im (pv K box), .im (pv K array), .im (pv K view), .im (pv K lot), .im (pv K symbols), .im (pv K due), .im (pv K a657), .ow (ol K part677), .im (pv K a671)]) (fun _ => rfl) (em_of_eo (eo_callS (f := fun (z676 : Ref × Int × Unit) => (z676.1, z676.2.1)) (am_cons (em_pure fun _ => (ep_var rfl)) (am_cons (em_pure fun _ => (ep_bor (Γ0 := [.im (pv K box), .im (pv K array), .im (pv K view), .im (pv K lot), .im (pv K symbols), .im (pv K due), .im (pv K a657), .im (pv K t659), .im (pv K a671)]) (.cons (.rfl _) (.cons (.rfl _) (.cons (.rfl _) (.cons (.rfl _) (.cons (.rfl _) (.cons (.rfl _) (.cons (.rfl _) (.cons (.fr fr_ol) (.cons (.rfl _) .nil))))))))) rfl (ep_cb (ap_cons (ep_var rfl) ap_nil) c_lenL))) am_nil)) (fun _ _ => rfl) fun _ _ => rfl)) fun _ _ => rfl) fun part677 s => (.cons (.rfl _) (.cons (.rfl _) (.cons (.rfl _) (.cons (.rfl _) (.cons (.rfl _) (.cons (.rfl _) (.cons (.rfl _) (.cons (.rfl _) (.cons (.no _) .nil))))))))))) fun t679 => (rc_if (tm_bor (Γ0 := [.im (pv K box), .im (pv K array), .im (pv K view), .im (pv K lot), .im (pv K symbols), .im (pv K due), .im (pv K a657), .im (pv K t679), .no]) (fun _ => (.cons (.rfl _) (.cons (.rfl _) (.cons (.rfl _) (.cons (.rfl _) (.cons (.rfl _) (.cons (.rfl _) (.cons (.rfl _) (.cons (.fr fr_ol) (.cons (.rfl _) .nil)))))))))) rfl (tm_or (tm_test (em_opr (g := fun (u : (Option (List Int))) (v : (Option (List Int))) => (!decide (u = v))) (em_ownO (eo_call0 (i := (array, ((Sq.mk false t679) : (Sq (Int × Int))))) (ps := [pv K array, pv K ((Sq.mk false t679) : (Sq (Int × Int)))]) (fun _ => (ap_cons (ep_var rfl) (ap_cons (ep_sqL (ep_var rfl)) ap_nil))) rfl)) (fun _ => (ep_if (tp_B (ep_var rfl)) (fun _ => (ep_someN (ep_var rfl))) fun _ => ep_nonO)) fun _ => (o_neDt (Nat.le_of_ble_eq_true rfl)))) (tm_test (em_opr (g := fun (u : (List (Int × Int))) (v : (List (Int × Int))) => (!decide (u = v))) (em_ownL (eo_call0 (i := (array, ((Sq.mk false t679) : (Sq (Int × Int))))) (ps := [pv K array, pv K ((Sq.mk false t679) : (Sq (Int × Int)))]) (fun _ => (ap_cons (ep_var rfl) (ap_cons (ep_sqL (ep_var rfl)) ap_nil))) rfl)) (fun _ => (ep_lst (xs := ([] : (List (Int × Int)))) (hl := Nat.le_of_ble_eq_true rfl) ap_nil)) fun _ => (o_neDt (Nat.le_of_ble_eq_true rfl)))))) (rc_of_x (rx_ret (rt_ret (em_pure fun _ => (ep_bl (K := K))) fun s => (.cons (.no _) (.cons (.no _) (.cons (.no _) (.cons (.no _) (.cons (.no _) (.cons (.no _) (.cons (.no _) (.cons (.drop _) (.cons (.rfl _) .nil)))))))))))) (rc_of_p (rp_next (x := ()) fun s => (.cons (.rfl _) (.cons (.rfl _) (.cons (.rfl _) (.cons (.rfl _) (.cons (.rfl _) (.cons (.rfl _) (.cons (.no _) (.cons (.drop _) (.cons (.rfl _) .nil))))))))))))))) fun t685 => (rt_ret (em_pure fun _ => (ep_bl (K := K))) fun s => (.cons (.no _) (.cons (.no _) (.cons (.no _) (.cons (.no _) (.cons (.no _) (.cons (.no _) (.cons (.rfl _) (.cons (.rfl _) (.cons (.rfl _) .nil)))))))))))))) h⟩
theorem ok__law_parts_right {f : Addr} {fd : FuncData} (F : FnP K "_law_parts_right" (top 82) f fd) (hg : mg "_law_parts_right" = some (.ref f)) (b_len : mg "len" = none) (b_list : mg "list" = none) (b_range : mg "range" = none) (C__law_take : Cal P w K mg base 1 "_law_take" ["box", "many"] (sp__law_take K)) (C_told : Cal P w K mg base 10 "told" ["array", "view"] (sp_told K)) (C_mending : Cal P w K mg base 11 "mending" ["array", "view"] (sp_mending K)) : Cal P w K mg base 12 "_law_parts_right" ["box", "array", "view", "lot", "symbols", "due"] (sp__law_parts_right K) := ⟨f, fd, fo__law_parts_right F b_len b_list b_range C__law_take C_told C_mending, hg, F.kp, F.bindsN fun _ _ _ _ _ _ us hl => match us, hl with | [_, _, _, _, _, _], _ => rfl⟩
def m__law_right (box : Ref) : Mn (Sto K) Bool :=
  (mb (mb (mb (mp box) fun x_686 => mb (mp ()) fun z687 => mp (x_686, z687)) fun z688 => (m__law_drawn z688.1)) fun z689 =>
  (mb (mb (mb (mp box) fun x_690 => mb (mp ()) fun z691 => mp (x_690, z691)) fun z692 => (m__law_drawn z692.1)) fun z693 =>
  (mb (mp z689.1) fun z694 =>
  (mb (mb (mb (mb (mp z694.a) fun x_703 => mb (mb (mp z694.b) fun x_701 => mb (mb (mp z694.c) fun x_699 => mb (mb (mp z694.d) fun x_697 => mb (mb (mp z694.e) fun x_695 => mb (mp ()) fun z696 => mp (x_695, z696)) fun z698 => mp (x_697, z698)) fun z700 => mp (x_699, z700)) fun z702 => mp (x_701, z702)) fun z704 => mp (x_703, z704)) fun z705 => mu (m_Array z705.1 z705.2.1 z705.2.2.1 z705.2.2.2.1 z705.2.2.2.2.1)) fun x_720 => mb (mb (mb (mb (mp z693.1.a) fun x_714 => mb (mb (mp z693.1.b) fun x_712 => mb (mb (mp z693.1.c) fun x_710 => mb (mb (mp z693.1.d) fun x_708 => mb (mb (mp z693.1.e) fun x_706 => mb (mp ()) fun z707 => mp (x_706, z707)) fun z709 => mp (x_708, z709)) fun z711 => mp (x_710, z711)) fun z713 => mp (x_712, z713)) fun z715 => mp (x_714, z715)) fun z716 => mu (m_Array z716.1 z716.2.1 z716.2.2.1 z716.2.2.2.1 z716.2.2.2.2.1)) fun x_718 => mb (mp ()) fun z719 => mp (x_718, z719)) fun z721 => mp (x_720, z721)) fun z717 =>
  (mb (mb (mb (mp box) fun x_724 => mb (mb (mp z689.2.b) fun x_722 => mb (mp ()) fun z723 => mp (x_722, z723)) fun z725 => mp (x_724, z725)) fun z726 => (m__law_take z726.1 z726.2.1)) fun number727 =>
  (mb (mb (mu (m__law_word z689.2 number727)) fun x_731 => mb (mb (mu (m__law_lot z694.c z694.d number727)) fun x_729 => mb (mp ()) fun z730 => mp (x_729, z730)) fun z732 => mp (x_731, z732)) fun z728 =>
  (mb (mb (mb (mb (mb (mp z717.1) fun x_735 => mb (mb (mb (mp z728.2.1) fun x => mp (Sq.mk false x)) fun x_733 => mb (mp ()) fun z734 => mp (x_733, z734)) fun z736 => mp (x_735, z736)) fun z737 => (mu (m_head_word z737.1 z737.2.1))) fun x_738 => mp (!decide (x_738 = z728.1))) fun b742 => mi b742 (mp true) (mb (mu (m_lot_number z717.1 ((Sq.mk true ((Tu.mk z728.2.1) : (Tu Int)).l) : (Sq Int)))) fun x_740 => mp (!decide (x_740 = number727)))) fun b => mi b
    (mp false)
    (mb (mb (mb (mb (mp box) fun x_747 => mb (mb (mp z728.1) fun x_745 => mb (mb (mp z694.e) fun x_743 => mb (mp ()) fun z744 => mp (x_743, z744)) fun z746 => mp (x_745, z746)) fun z748 => mp (x_747, z748)) fun z749 => (m__law_left_view z749.1 z749.2.1 z749.2.2.1)) fun x_751 => mb (mp ()) fun z752 => mp (x_751, z752)) fun z750 =>
  (mb (mb (mc (b62 ((8 : Int) : Int)) (rng 0 ((8 : Int) : Int).toNat)) fun xs => forC (β := Empty) xs (z750.1, ([] : (List Int)), true) fun a754 (t753 : (List (Int × Int)) × (List Int) × Bool) =>
    (mb (mb (mb (mb (mb (mb (mp box) fun x_758 => mb (mb (mp ((2 : Int) : Int)) fun x_756 => mb (mp ()) fun z757 => mp (x_756, z757)) fun z759 => mp (x_758, z759)) fun z760 => (m__law_take z760.1 z760.2.1)) fun x_761 => mb (mp ()) fun z762 => mp (x_761, z762)) fun z763 => mc (b62 z763.1) (rng 0 z763.1.toNat)) fun xs => forP xs t753.2.1 fun a764 (t755 : (List Int)) =>
    (mb (mb (mb (mp box) fun x_767 => mb (mb (mp z694.a) fun x_765 => mb (mp ()) fun z766 => mp (x_765, z766)) fun z768 => mp (x_767, z768)) fun z769 => (m__law_take z769.1 z769.2.1)) fun disk770 =>
    (mb (mb (mb (mc (lenOk (t755.length + (cond (decide (((t755.length : Nat) : Int) < z694.b) && (!decide (disk770 ∈ t755))) ([disk770] : (List Int)) ([] : (List Int))).length)) (t755 ++ (cond (decide (((t755.length : Nat) : Int) < z694.b) && (!decide (disk770 ∈ t755))) ([disk770] : (List Int)) ([] : (List Int))))) fun x_771 => mb (mp ()) fun z772 => mp (x_771, z772)) fun z773 => mp (srt z773.1)) fun gone774 => mp gone774))) fun t775 =>
    (mb (mu (m__law_without t753.1 z694.a t775)) fun view776 =>
    (mb (mu (m__law_asked z717.1 view776 z728.1 z728.2.1 z689.2.c t753.2.2)) fun due777 =>
    (mb (mu (m__law_word z693.2 ((0 : Int) : Int))) fun far_word778 =>
    (mb (mb (mp due777.isNone) fun b794 => mi b794 (mp true) (mb (mb (mb (mp z717.2.1) fun x_789 => mb (mb (mb (mb (mc (b62 (((far_word778.l.length : Nat) : Int) : Int)) (rng 0 (((far_word778.l.length : Nat) : Int) : Int).toNat)) fun xs => cmP xs (fun (a779 : Int) => (mp true)) fun a779 => (mb (mb (mp a779) fun x_784 => mb (mb (mo (atI far_word778.l a779)) fun x_782 => mb (mp ()) fun z783 => mp (x_782, z783)) fun z785 => mp (x_784, z785)) fun z786 => mp (z786.1, z786.2.1))) fun x => mp (Sq.mk false x)) fun x_787 => mb (mp ()) fun z788 => mp (x_787, z788)) fun z790 => mp (x_789, z790)) fun z791 => (mu (m_told z791.1 z791.2.1))) fun x_792 => mb (mb (mc (rgOk 0 z693.1.d) (rng 0 z693.1.d.toNat)) fun x => mp (some x)) fun y793 => mp (!decide (x_792 = y793)))) fun b => mi b
      (mb (mp false) fun x => mp (.rt x))
      (mb (mb (mo due777) fun x_805 => mb (mb (mb (mb (mp view776) fun x_799 => mb (mb (mp z728.1) fun x_797 => mb (mb (mo due777) fun x_795 => mb (mp ()) fun z796 => mp (x_795, z796)) fun z798 => mp (x_797, z798)) fun z800 => mp (x_799, z800)) fun z801 => (mu (m__law_writes z801.1 z801.2.1 z801.2.2.1))) fun x_803 => mb (mp ()) fun z804 => mp (x_803, z804)) fun z806 => mp (x_805, z806)) fun z802 =>
    (mb (mb (mp (decide (a754 < (6 : Int)) && (!decide (z802.2.1 = ([] : (List (Int × Int))))))) fun b817 => mi b817 (mb (mb (mp box) fun x_809 => mb (mb (mp (((z802.2.1.length : Nat) : Int) : Int)) fun x_807 => mb (mp ()) fun z808 => mp (x_807, z808)) fun z810 => mp (x_809, z810)) fun z811 => (m__law_take z811.1 z811.2.1)) (mb (mb (mp box) fun x_814 => mb (mb (mp ((((z802.2.1.length : Nat) : Int) + (1 : Int)) : Int)) fun x_812 => mb (mp ()) fun z813 => mp (x_812, z813)) fun z815 => mp (x_814, z815)) fun z816 => (m__law_take z816.1 z816.2.1))) fun done818 =>
    (mb (mb (mp view776) fun xs => mp (mergeI xs)) fun held819 =>
    (mb (mb (mp ((cutL z802.2.1 none (some done818)) : (List (Int × Int)))) fun xs => forP xs held819 fun a821 (t820 : (List (Int × Int))) =>
    (mb (mb (mp a821.2) fun x_823 => mb (mp a821.1) fun i824 => mc (decide (t820.length < 10000)) (putI t820 i824 x_823)) fun held822 => mp held822)) fun t825 =>
    (mb (mb (mp (decide (done818 < ((z802.2.1.length : Nat) : Int)))) fun b => mi b
    (mb (mb (mb (mb (mp box) fun x_829 => mb (mb (mp z694.e) fun x_827 => mb (mp ()) fun z828 => mp (x_827, z828)) fun z830 => mp (x_829, z830)) fun z831 => (m__law_take z831.1 z831.2.1)) fun x_836 => mb (mb (mo (atI z802.2.1 done818)) fun x_834 => mp x_834.1) fun i837 => mc (decide (t825.length < 10000)) (putI t825 i837 x_836)) fun held835 => mp held835)
    (mp t825)) fun t826 =>
    (mb (mb (mc (decide (t826.length ≤ 10000)) (srtP t826)) fun view838 => mp (view838, t775, z802.1)) fun x => mp (.nx x))))))))))))) (ctk (fun t839 => (mb (mu (m__law_rule t839.1 z689.2.c)) fun due840 =>
  (mb (mb (mu (m__law_writes t839.1 z728.1 due840)) fun xs => forP xs t839.1 fun a842 (t841 : (List (Int × Int))) =>
    (mb (mb (mp t841) fun xs => mp (mergeI xs)) fun held843 =>
    (mb (mb (mp a842.2) fun x_845 => mb (mp a842.1) fun i846 => mc (decide (held843.length < 10000)) (putI held843 i846 x_845)) fun held844 =>
    (mb (mc (decide (held844.length ≤ 10000)) (srtP held844)) fun view847 => mp view847)))) fun t848 =>
  (mb (mb (mb (mp t848) fun xs => cmP xs (fun (a849 : (Int × Int)) => (mp true)) fun a849 => (mb (mb (mp a849.1) fun x_855 => mb (mb (mb (mp due840) fun b852 => mi b852 (mo (atI z728.1.l a849.1)) (mp ((0 : Int) : Int))) fun x_853 => mb (mp ()) fun z854 => mp (x_853, z854)) fun z856 => mp (x_855, z856)) fun z857 => mp (z857.1, z857.2.1))) fun y859 => mp (!decide (t848 = y859))) fun b => mi b
    (mp false)
    (mb (mb (mb (mp box) fun x_870 => mb (mb (mp z717.1) fun x_868 => mb (mb (mp t848) fun x_866 => mb (mb (mp z728.2.1) fun x_864 => mb (mb (mp z689.2.c) fun x_862 => mb (mb (mp due840) fun x_860 => mb (mp ()) fun z861 => mp (x_860, z861)) fun z863 => mp (x_862, z863)) fun z865 => mp (x_864, z865)) fun z867 => mp (x_866, z867)) fun z869 => mp (x_868, z869)) fun z871 => mp (x_870, z871)) fun z872 => (m__law_parts_right z872.1 z872.2.1 z872.2.2.1 z872.2.2.2.1 z872.2.2.2.2.1 z872.2.2.2.2.2.1)) fun b873 => mi b873 (mp ((decide (due840 = false) || (!decide (t839.2.2 = false))) : Bool)) (mp false)))))) fun _ => mbad))))))))))
abbrev sp__law_right (K : PySem.W.Frag) : Sp := Prom (rIm K) (S := (Sto K)) (fun i : Ref => [.im (pv K i)]) fun i => m__law_right i
theorem len__law_right : ∀ vs H Q E, sp__law_right K vs H Q E → vs.length = 1 := prom_len (S := (Sto K)) (Ret := (rIm K)) (As := fun i : Ref => [.im (pv K i)]) (m := fun i => m__law_right i) fun _ => rfl
theorem sc__law_right : FnScope ["box", "numbers", "sizes", "other", "unlike", "disks", "lost", "records", "few", "contents", "array", "far", "number", "word", "lot", "view", "gone", "before", "turn", "k", "disk", "due", "far_word", "writes", "done", "held", "head", "content"] ["box"] (defScope (top 83)) := ⟨rfl, rfl, rfl, by decide +kernel, rfl, by decide +kernel, by decide +kernel⟩
theorem fo__law_right {f : Addr} {fd : FuncData} (F : FnP K "_law_right" (top 83) f fd) (b_dict : mg "dict" = none) (b_len : mg "len" = none) (b_list : mg "list" = none) (b_range : mg "range" = none) (b_sorted : mg "sorted" = none) (b_tuple : mg "tuple" = none) (C__law_drawn : Cal P w K mg base 3 "_law_drawn" ["box"] (sp__law_drawn K)) (C__law_take : Cal P w K mg base 1 "_law_take" ["box", "many"] (sp__law_take K)) (C__law_word : Cal P w K mg base 2 "_law_word" ["sizes", "number"] (sp__law_word K)) (C__law_lot : Cal P w K mg base 2 "_law_lot" ["records", "few", "number"] (sp__law_lot K)) (C_head_word : Cal P w K mg base 9 "head_word" ["array", "lot"] (sp_head_word K)) (C_lot_number : Cal P w K mg base 6 "lot_number" ["array", "lot"] (sp_lot_number K)) (C__law_left_view : Cal P w K mg base 2 "_law_left_view" ["box", "word", "contents"] (sp__law_left_view K)) (C__law_without : Cal P w K mg base 1 "_law_without" ["view", "disks", "gone"] (sp__law_without K)) (C__law_asked : Cal P w K mg base 12 "_law_asked" ["array", "view", "word", "lot", "symbols", "before"] (sp__law_asked K)) (C_told : Cal P w K mg base 10 "told" ["array", "view"] (sp_told K)) (C__law_writes : Cal P w K mg base 1 "_law_writes" ["view", "word", "told_lot"] (sp__law_writes K)) (C__law_rule : Cal P w K mg base 1 "_law_rule" ["view", "symbols"] (sp__law_rule K)) (C__law_parts_right : Cal P w K mg base 12 "_law_parts_right" ["box", "array", "view", "lot", "symbols", "due"] (sp__law_parts_right K)) (K_Array : MakC P w K mg base 6 "Array" n_Array ["self", "disks", "lost", "records", "changes", "contents"] fun C => sp_Array K C) : FnOk P w K mg base CX0 13 f fd ["box"] (sp__law_right K) := by
  obtain ⟨f__law_drawn, fd__law_drawn, G__law_drawn, g__law_drawn, kp__law_drawn, bi__law_drawn⟩ := C__law_drawn.ex
  obtain ⟨f__law_take, fd__law_take, G__law_take, g__law_take, kp__law_take, bi__law_take⟩ := C__law_take.ex
  obtain ⟨f__law_word, fd__law_word, G__law_word, g__law_word, kp__law_word, bi__law_word⟩ := C__law_word.ex
  obtain ⟨f__law_lot, fd__law_lot, G__law_lot, g__law_lot, kp__law_lot, bi__law_lot⟩ := C__law_lot.ex
  obtain ⟨f_head_word, fd_head_word, G_head_word, g_head_word, kp_head_word, bi_head_word⟩ := C_head_word.ex
  obtain ⟨f_lot_number, fd_lot_number, G_lot_number, g_lot_number, kp_lot_number, bi_lot_number⟩ := C_lot_number.ex
  obtain ⟨f__law_left_view, fd__law_left_view, G__law_left_view, g__law_left_view, kp__law_left_view, bi__law_left_view⟩ := C__law_left_view.ex
  obtain ⟨f__law_without, fd__law_without, G__law_without, g__law_without, kp__law_without, bi__law_without⟩ := C__law_without.ex
  obtain ⟨f__law_asked, fd__law_asked, G__law_asked, g__law_asked, kp__law_asked, bi__law_asked⟩ := C__law_asked.ex
  obtain ⟨f_told, fd_told, G_told, g_told, kp_told, bi_told⟩ := C_told.ex
  obtain ⟨f__law_writes, fd__law_writes, G__law_writes, g__law_writes, kp__law_writes, bi__law_writes⟩ := C__law_writes.ex
  obtain ⟨f__law_rule, fd__law_rule, G__law_rule, g__law_rule, kp__law_rule, bi__law_rule⟩ := C__law_rule.ex
  obtain ⟨f__law_parts_right, fd__law_parts_right, G__law_parts_right, g__law_parts_right, kp__law_parts_right, bi__law_parts_right⟩ := C__law_parts_right.ex
  obtain ⟨CC_Array, f_Array, fd_Array, g_Array, M_Array, hc_Array, G_Array, bi_Array⟩ := K_Array.ex
  refine F.ok sc__law_right (len__law_right (K := K)) (fun cdv A outer s H vs Q E hr h => ?_)
  have hl : vs.length = 1 := len__law_right (K := K) vs H Q E h
  match vs, hl, h with
  | [v0], _, h => exact ⟨_, PSs.nox ((pss_cons (ps_asg (pe_call G__law_drawn (hr.mono (Nat.le_of_ble_eq_true rfl)) rfl g__law_drawn kp__law_drawn bi__law_drawn .nil pass0 (pa_cons (L2.pv 0) pa_nil)) (pg_tup (n := 2) rfl (pgs_cons (pg_name (i := 1) sc__law_right.nd rfl (Or.inl rfl)) (pgs_cons (pg_name (i := 2) sc__law_right.nd rfl (Or.inl rfl)) pgs_nil)))) (pss_cons (ps_asg (pe_call G__law_drawn (hr.mono (Nat.le_of_ble_eq_true rfl)) rfl g__law_drawn kp__law_drawn bi__law_drawn .nil pass0 (pa_cons (L2.pv 0) pa_nil)) (pg_tup (n := 2) rfl (pgs_cons (pg_name (i := 3) sc__law_right.nd rfl (Or.inl rfl)) (pgs_cons (pg_name (i := 4) sc__law_right.nd rfl (Or.inl rfl)) pgs_nil)))) (pss_cons (ps_asg (L2.pv 1) (pg_tup (n := 5) rfl (pgs_cons (pg_name (i := 5) sc__law_right.nd rfl (Or.inl rfl)) (pgs_cons (pg_name (i := 6) sc__law_right.nd rfl (Or.inl rfl)) (pgs_cons (pg_name (i := 7) sc__law_right.nd rfl (Or.inl rfl)) (pgs_cons (pg_name (i := 8) sc__law_right.nd rfl (Or.inl rfl)) (pgs_cons (pg_name (i := 9) sc__law_right.nd rfl (Or.inl rfl)) pgs_nil))))))) (pss_cons (ps_par (i := 10) (j := 11) rfl sc__law_right.nd rfl rfl (by decide) rfl rfl (pa_cons (pe_make M_Array G_Array (hr.mono (Nat.le_of_ble_eq_true rfl)) rfl g_Array bi_Array .nil pass0 (pa_cons (L2.pv 5) (pa_cons (L2.pv 6) (pa_cons (L2.pv 7) (pa_cons (L2.pv 8) (pa_cons (L2.pv 9) pa_nil)))))) (pa_cons (pe_make M_Array G_Array (hr.mono (Nat.le_of_ble_eq_true rfl)) rfl g_Array bi_Array .nil pass0 (pa_cons (pe_ix ix_tup (L2.pv 3) pe_int (fun _ _ => rfl)) (pa_cons (pe_ix ix_tup (L2.pv 3) pe_int (fun _ _ => rfl)) (pa_cons (pe_ix ix_tup (L2.pv 3) pe_int (fun _ _ => rfl)) (pa_cons (pe_ix ix_tup (L2.pv 3) pe_int (fun _ _ => rfl)) (pa_cons (pe_ix ix_tup (L2.pv 3) pe_int (fun _ _ => rfl)) pa_nil)))))) pa_nil)) rfl) (pss_cons (ps_set (i := 12) sc__law_right.nd rfl (Or.inl rfl) (pe_call G__law_take (hr.mono (Nat.le_of_ble_eq_true rfl)) rfl g__law_take kp__law_take bi__law_take .nil pass0 (pa_cons (L2.pv 0) (pa_cons (pe_ix ix_tup (L2.pv 2) pe_int (fun _ _ => rfl)) pa_nil)))) (pss_cons (ps_asg (pe_tup (pa_cons (pe_call G__law_word (hr.mono (Nat.le_of_ble_eq_true rfl)) rfl g__law_word kp__law_word bi__law_word .nil pass0 (pa_cons (L2.pv 2) (pa_cons (L2.pv 12) pa_nil))) (pa_cons (pe_call G__law_lot (hr.mono (Nat.le_of_ble_eq_true rfl)) rfl g__law_lot kp__law_lot bi__law_lot .nil pass0 (pa_cons (L2.pv 7) (pa_cons (L2.pv 8) (pa_cons (L2.pv 12) pa_nil)))) pa_nil))) (pg_tup (n := 2) rfl (pgs_cons (pg_name (i := 13) sc__law_right.nd rfl (Or.inr rfl)) (pgs_cons (pg_name (i := 14) sc__law_right.nd rfl (Or.inl rfl)) pgs_nil)))) (pss_cons (ps_if (PW.pt (pw_or (pt_cmpR (op_neD (hu64 hr)) (pe_call G_head_word (hr.mono (Nat.le_of_ble_eq_true rfl)) rfl g_head_word kp_head_word bi_head_word .nil pass0 (pa_cons (L2.pv 10) (pa_cons (pe_callTy call_list_of rfl b_list bt_list (pa_cons (L2.pv 14) pa_nil)) pa_nil))) (L2.pv 13) (nomark _)) (pw_or1 (pt_cmpR op_ne (pe_call G_lot_number (hr.mono (Nat.le_of_ble_eq_true rfl)) rfl g_lot_number kp_lot_number bi_lot_number .nil pass0 (pa_cons (L2.pv 10) (pa_cons (pe_callTy call_tuple_of rfl b_tuple bt_tuple (pa_cons (L2.pv 14) pa_nil)) pa_nil))) (L2.pv 12) (nomark _))))) (pss_one (ps_ret pe_bl)) pss_nil) (pss_cons (ps_par3 (i := 15) (j := 16) (l := 17) rfl sc__law_right.nd rfl rfl rfl (by decide) (by decide) (by decide) rfl rfl rfl (pa_cons (pe_call G__law_left_view (hr.mono (Nat.le_of_ble_eq_true rfl)) rfl g__law_left_view kp__law_left_view bi__law_left_view .nil pass0 (pa_cons (L2.pv 0) (pa_cons (L2.pv 13) (pa_cons (L2.pv 9) pa_nil)))) (pa_cons (pe_lst pa_nil) (pa_cons pe_bl pa_nil))) rfl) (pss_cons (ps_for PassesOwn.never rfl (pi_range1 rfl b_range (pa_cons pe_int pa_nil)) (pg_name (i := 18) sc__law_right.nd rfl (Or.inl rfl)) (pss_cons (ps_for PassesOwn.never rfl (pi_range1 rfl b_range (pa_cons (pe_call G__law_take (hr.mono (Nat.le_of_ble_eq_true rfl)) rfl g__law_take kp__law_take bi__law_take .nil pass0 (pa_cons (L2.pv 0) (pa_cons pe_int pa_nil))) pa_nil)) (pg_name (i := 19) sc__law_right.nd rfl (Or.inl rfl)) (pss_cons (ps_set (i := 20) sc__law_right.nd rfl (Or.inl rfl) (pe_call G__law_take (hr.mono (Nat.le_of_ble_eq_true rfl)) rfl g__law_take kp__law_take bi__law_take .nil pass0 (pa_cons (L2.pv 0) (pa_cons (L2.pv 5) pa_nil)))) (pss_one (ps_set (i := 16) sc__law_right.nd rfl (Or.inl rfl) (pe_callB cr_sortedI rfl b_sorted bt_sorted (pa_cons (pe_op op_cat (L2.pv 16) (pe_ifExp (PW.pt (pw_and (pt_cmpR op_lt (pe_callB call_len_seq rfl b_len bt_len (pa_cons (L2.pv 16) pa_nil)) (L2.pv 6) (nomark _)) (pw_and1 (pt_cmpR op_notIn_seq (L2.pv 20) (L2.pv 16) (by rfl))))) (pe_lst (pa_cons (L2.pv 20) pa_nil)) (pe_lst pa_nil))) pa_nil)))))) (pss_cons (ps_set (i := 15) sc__law_right.nd rfl (Or.inl rfl) (pe_call G__law_without (hr.mono (Nat.le_of_ble_eq_true rfl)) rfl g__law_without kp__law_without bi__law_without .nil pass0 (pa_cons (L2.pv 15) (pa_cons (L2.pv 5) (pa_cons (L2.pv 16) pa_nil))))) (pss_cons (ps_set (i := 21) sc__law_right.nd rfl (Or.inr rfl) (pe_call G__law_asked (hr.mono (Nat.le_of_ble_eq_true rfl)) rfl g__law_asked kp__law_asked bi__law_asked .nil pass0 (pa_cons (L2.pv 10) (pa_cons (L2.pv 15) (pa_cons (L2.pv 13) (pa_cons (L2.pv 14) (pa_cons (pe_ix ix_tup (L2.pv 2) pe_int (fun _ _ => rfl)) (pa_cons (L2.pv 17) pa_nil)))))))) (pss_cons (ps_set (i := 22) sc__law_right.nd rfl (Or.inr rfl) (pe_call G__law_word (hr.mono (Nat.le_of_ble_eq_true rfl)) rfl g__law_word kp__law_word bi__law_word .nil pass0 (pa_cons (L2.pv 4) (pa_cons pe_int pa_nil)))) (pss_cons (ps_if (PW.pt (pw_or (pt_cmpR op_isN (L2.pv 21) pe_non (nomark _)) (pw_or1 (pt_cmpR (op_neD (hu64 hr)) (pe_call G_told (hr.mono (Nat.le_of_ble_eq_true rfl)) rfl g_told kp_told bi_told .nil pass0 (pa_cons (L2.pv 11) (pa_cons (pe_lc (own := [("k", 19)]) rfl sc__law_right.nd (pi_range1 rfl b_range (pa_cons (pe_callB call_len_seq rfl b_len bt_len (pa_cons (L2.pv 22) pa_nil)) pa_nil)) (blkOk_by (own := [("k", 19)]) (N := ["box", "numbers", "sizes", "other", "unlike", "disks", "lost", "records", "few", "contents", "array", "far", "number", "word", "lot", "view", "gone", "before", "turn", "k", "disk", "due", "far_word", "writes", "done", "held", "head", "content"]) (sc := defScope (top 83)) (by decide +kernel)) (fun _ _ _ _ _ => (pg_name (i := 19) sc__law_right.nd rfl (Or.inl rfl))) (fun _ _ _ _ _ => pts_nil) (fun _ _ _ _ _ => (pe_tup (pa_cons (L2.pv 19) (pa_cons (pe_ix ix_tup (L2.pv 22) (L2.pv 19) (fun _ _ => rfl)) pa_nil))))) pa_nil))) (pe_listRg rfl rfl b_list (prg_1 rfl b_range (pe_ix ix_tup (L2.pv 3) pe_int (fun _ _ => rfl)))) (nomark _))))) (pss_one (ps_ret pe_bl)) pss_nil) (pss_cons (ps_par (i := 17) (j := 23) rfl sc__law_right.nd rfl rfl (by decide) rfl rfl (pa_cons (L2.pv 21) (pa_cons (pe_call G__law_writes (hr.mono (Nat.le_of_ble_eq_true rfl)) rfl g__law_writes kp__law_writes bi__law_writes .nil pass0 (pa_cons (L2.pv 15) (pa_cons (L2.pv 13) (pa_cons (L2.pv 21) pa_nil)))) pa_nil)) rfl) (pss_cons (ps_set (i := 24) sc__law_right.nd rfl (Or.inl rfl) (pe_ifExp (PW.pt (pw_and (pt_cmpR op_lt (L2.pv 18) pe_int (nomark _)) (pw_and1 (pt_cmpR (op_neD (hu64 hr)) (L2.pv 23) (pe_lst pa_nil) (nomark _))))) (pe_call G__law_take (hr.mono (Nat.le_of_ble_eq_true rfl)) rfl g__law_take kp__law_take bi__law_take .nil pass0 (pa_cons (L2.pv 0) (pa_cons (pe_callB call_len_seq rfl b_len bt_len (pa_cons (L2.pv 23) pa_nil)) pa_nil))) (pe_call G__law_take (hr.mono (Nat.le_of_ble_eq_true rfl)) rfl g__law_take kp__law_take bi__law_take .nil pass0 (pa_cons (L2.pv 0) (pa_cons (pe_op op_add (pe_callB call_len_seq rfl b_len bt_len (pa_cons (L2.pv 23) pa_nil)) pe_int) pa_nil))))) (pss_cons (ps_set (i := 25) sc__law_right.nd rfl (Or.inl rfl) (pe_callTy (call_dictP rfl) rfl b_dict bt_dict (pa_cons (L2.pv 15) pa_nil))) (pss_cons (ps_for PassesOwn.never rfl (pi_list (pe_slice sl_list (L2.pv 23) po_none (po_some (L2.pv 24)))) (pg_tup (n := 2) rfl (pgs_cons (pg_name (i := 26) sc__law_right.nd rfl (Or.inl rfl)) (pgs_cons (pg_name (i := 27) sc__law_right.nd rfl (Or.inl rfl)) pgs_nil))) (pss_one (ps_dput (hu1 hr) (L2.pv 25) (L2.pv 26) (L2.pv 27) rfl))) (pss_cons (ps_if (pt_cmpR op_lt (L2.pv 24) (pe_callB call_len_seq rfl b_len bt_len (pa_cons (L2.pv 23) pa_nil)) (nomark _)) (pss_one (ps_dput (hu1 hr) (L2.pv 25) (pe_ix ix_tup (pe_ix ix_list (L2.pv 23) (L2.pv 24) (fun _ _ => rfl)) pe_int (fun _ _ => rfl)) (pe_call G__law_take (hr.mono (Nat.le_of_ble_eq_true rfl)) rfl g__law_take kp__law_take bi__law_take .nil pass0 (pa_cons (L2.pv 0) (pa_cons (L2.pv 9) pa_nil))) rfl)) pss_nil) (pss_one (ps_set (i := 15) sc__law_right.nd rfl (Or.inl rfl) (pe_callB (DX2.cr_sortI rfl) rfl b_sorted bt_sorted (pa_cons (pe_bm0 PySem.F.plainAttrs_dict PySem.F.slot_dict_items PySem.F.type_dict_items DX2.mt_itemsI (L2.pv 25)) pa_nil))))))))))))))) (pss_cons (ps_set (i := 21) sc__law_right.nd rfl (Or.inr rfl) (pe_call G__law_rule (hr.mono (Nat.le_of_ble_eq_true rfl)) rfl g__law_rule kp__law_rule bi__law_rule .nil pass0 (pa_cons (L2.pv 15) (pa_cons (pe_ix ix_tup (L2.pv 2) pe_int (fun _ _ => rfl)) pa_nil)))) (pss_cons (ps_for PassesOwn.never rfl (pi_list (pe_call G__law_writes (hr.mono (Nat.le_of_ble_eq_true rfl)) rfl g__law_writes kp__law_writes bi__law_writes .nil pass0 (pa_cons (L2.pv 15) (pa_cons (L2.pv 13) (pa_cons (L2.pv 21) pa_nil))))) (pg_tup (n := 2) rfl (pgs_cons (pg_name (i := 26) sc__law_right.nd rfl (Or.inl rfl)) (pgs_cons (pg_name (i := 27) sc__law_right.nd rfl (Or.inl rfl)) pgs_nil))) (pss_cons (ps_set (i := 25) sc__law_right.nd rfl (Or.inl rfl) (pe_callTy (call_dictP rfl) rfl b_dict bt_dict (pa_cons (L2.pv 15) pa_nil))) (pss_cons (ps_dput (hu1 hr) (L2.pv 25) (L2.pv 26) (L2.pv 27) rfl) (pss_one (ps_set (i := 15) sc__law_right.nd rfl (Or.inl rfl) (pe_callB (DX2.cr_sortI rfl) rfl b_sorted bt_sorted (pa_cons (pe_bm0 PySem.F.plainAttrs_dict PySem.F.slot_dict_items PySem.F.type_dict_items DX2.mt_itemsI (L2.pv 25)) pa_nil))))))) (pss_cons (ps_if (pt_cmpR (op_neD (hu64 hr)) (L2.pv 15) (pe_lc (own := [("head", 26), ("content", 27)]) rfl sc__law_right.nd (pi_list (L2.pv 15)) (blkOk_by (own := [("head", 26), ("content", 27)]) (N := ["box", "numbers", "sizes", "other", "unlike", "disks", "lost", "records", "few", "contents", "array", "far", "number", "word", "lot", "view", "gone", "before", "turn", "k", "disk", "due", "far_word", "writes", "done", "held", "head", "content"]) (sc := defScope (top 83)) (by decide +kernel)) (fun _ _ _ _ _ => (pg_tup (n := 2) rfl (pgs_cons (pg_name (i := 26) sc__law_right.nd rfl (Or.inl rfl)) (pgs_cons (pg_name (i := 27) sc__law_right.nd rfl (Or.inl rfl)) pgs_nil)))) (fun _ _ _ _ _ => pts_nil) (fun _ _ _ _ _ => (pe_tup (pa_cons (L2.pv 26) (pa_cons (pe_ifExp (pt_val (L2.pv 21)) (pe_ix ix_tup (L2.pv 13) (L2.pv 26) (fun _ _ => rfl)) pe_int) pa_nil))))) (nomark _)) (pss_one (ps_ret pe_bl)) pss_nil) (pss_one (ps_ret (pe_and (pe_call G__law_parts_right (hr.mono (Nat.le_of_ble_eq_true rfl)) rfl g__law_parts_right kp__law_parts_right bi__law_parts_right .nil pass0 (pa_cons (L2.pv 0) (pa_cons (L2.pv 10) (pa_cons (L2.pv 15) (pa_cons (L2.pv 14) (pa_cons (pe_ix ix_tup (L2.pv 2) pe_int (fun _ _ => rfl)) (pa_cons (L2.pv 21) pa_nil))))))) (pe_one (pe_or (pe_cmpR op_isBl (L2.pv 21) pe_bl (nomark _)) (pe_one (pe_cmpR op_notBl (L2.pv 17) pe_bl (nomark _))))))))))))))))))))), prom_ok (n := 1) (S := (Sto K)) (Ret := (rIm K)) (As := fun i : Ref => [.im (pv K i)]) (m := fun i => m__law_right i) 27 (fun _ => rfl) rfl (fun box => (show RN (rIm K) _ (fun (s : (Sto K)) => [.im (pv K box), .no, .no, .no, .no, .no, .no, .no, .no, .no, .no, .no, .no, .no, .no, .no, .no, .no, .no, .no, .no, .no, .no, .no, .no, .no, .no, .no]) (m__law_right box) (fun (s : (Sto K)) => [.no, .no, .no, .no, .no, .no, .no, .no, .no, .no, .no, .no, .no, .no, .no, .no, .no, .no, .no, .no, .no, .no, .no, .no, .no, .no, .no, .no]) from (rn_of (rt_seq (rp_tup (Γ := fun (s : (Sto K)) => [.im (pv K box), .no, .no, .no, .no, .no, .no, .no, .no, .no, .no, .no, .no, .no, .no, .no, .no, .no, .no, .no, .no, .no, .no, .no, .no, .no, .no, .no]) (Γ' := fun (z689 : ((T5 Int Int Int Int Int) × (T5 Int Int Int (Option Int) Int))) (s : (Sto K)) => [.im (pv K box), .im (pv K z689.1), .im (pv K z689.2), .no, .no, .no, .no, .no, .no, .no, .no, .no, .no, .no, .no, .no, .no, .no, .no, .no, .no, .no, .no, .no, .no, .no, .no, .no]) (em_of_eo (eo_callS (f := fun (z688 : Ref × Unit) => z688.1) (am_cons (em_pure fun _ => (ep_var rfl)) am_nil) (fun _ _ => rfl) fun _ _ => rfl)) fun z689 s => (gt_2 (gt_name (Γ := [.im (pv K box), .no, .no, .no, .no, .no, .no, .no, .no, .no, .no, .no, .no, .no, .no, .no, .no, .no, .no, .no, .no, .no, .no, .no, .no, .no, .no, .no]) (i := 1) (Γ' := [.im (pv K box), .im (pv K z689.1), .no, .no, .no, .no, .no, .no, .no, .no, .no, .no, .no, .no, .no, .no, .no, .no, .no, .no, .no, .no, .no, .no, .no, .no, .no, .no]) rfl rfl) (gt_name (Γ := [.im (pv K box), .im (pv K z689.1), .no, .no, .no, .no, .no, .no, .no, .no, .no, .no, .no, .no, .no, .no, .no, .no, .no, .no, .no, .no, .no, .no, .no, .no, .no, .no]) (i := 2) (Γ' := [.im (pv K box), .im (pv K z689.1), .im (pv K z689.2), .no, .no, .no, .no, .no, .no, .no, .no, .no, .no, .no, .no, .no, .no, .no, .no, .no, .no, .no, .no, .no, .no, .no, .no, .no]) rfl rfl))) fun z689 => (rt_seq (rp_tup (Γ := fun (s : (Sto K)) => [.im (pv K box), .im (pv K z689.1), .im (pv K z689.2), .no, .no, .no, .no, .no, .no, .no, .no, .no, .no, .no, .no, .no, .no, .no, .no, .no, .no, .no, .no, .no, .no, .no, .no, .no]) (Γ' := fun (z693 : ((T5 Int Int Int Int Int) × (T5 Int Int Int (Option Int) Int))) (s : (Sto K)) => [.im (pv K box), .im (pv K z689.1), .im (pv K z689.2), .im (pv K z693.1), .im (pv K z693.2), .no, .no, .no, .no, .no, .no, .no, .no, .no, .no, .no, .no, .no, .no, .no, .no, .no, .no, .no, .no, .no, .no, .no]) (em_of_eo (eo_callS (f := fun (z692 : Ref × Unit) => z692.1) (am_cons (em_pure fun _ => (ep_var rfl)) am_nil) (fun _ _ => rfl) fun _ _ => rfl)) fun z693 s => (gt_2 (gt_name (Γ := [.im (pv K box), .im (pv K z689.1), .im (pv K z689.2), .no, .no, .no, .no, .no, .no, .no, .no, .no, .no, .no, .no, .no, .no, .no, .no, .no, .no, .no, .no, .no, .no, .no, .no, .no]) (i := 3) (Γ' := [.im (pv K box), .im (pv K z689.1), .im (pv K z689.2), .im (pv K z693.1), .no, .no, .no, .no, .no, .no, .no, .no, .no, .no, .no, .no, .no, .no, .no, .no, .no, .no, .no, .no, .no, .no, .no, .no]) rfl rfl) (gt_name (Γ := [.im (pv K box), .im (pv K z689.1), .im (pv K z689.2), .im (pv K z693.1), .no, .no, .no, .no, .no, .no, .no, .no, .no, .no, .no, .no, .no, .no, .no, .no, .no, .no, .no, .no, .no, .no, .no, .no]) (i := 4) (Γ' := [.im (pv K box), .im (pv K z689.1), .im (pv K z689.2), .im (pv K z693.1), .im (pv K z693.2), .no, .no, .no, .no, .no, .no, .no, .no, .no, .no, .no, .no, .no, .no, .no, .no, .no, .no, .no, .no, .no, .no, .no]) rfl rfl))) fun z693 => (rt_seq (rp_tup (Γ := fun (s : (Sto K)) => [.im (pv K box), .im (pv K z689.1), .im (pv K z689.2), .im (pv K z693.1), .im (pv K z693.2), .no, .no, .no, .no, .no, .no, .no, .no, .no, .no, .no, .no, .no, .no, .no, .no, .no, .no, .no, .no, .no, .no, .no]) (Γ' := fun (z694 : (T5 Int Int Int Int Int)) (s : (Sto K)) => [.im (pv K box), .im (pv K z689.1), .im (pv K z689.2), .im (pv K z693.1), .im (pv K z693.2), .im (pv K z694.a), .im (pv K z694.b), .im (pv K z694.c), .im (pv K z694.d), .im (pv K z694.e), .no, .no, .no, .no, .no, .no, .no, .no, .no, .no, .no, .no, .no, .no, .no, .no, .no, .no]) (em_pure fun _ => (ep_var rfl)) fun z694 s => (gt_5 (gt_name (Γ := [.im (pv K box), .im (pv K z689.1), .im (pv K z689.2), .im (pv K z693.1), .im (pv K z693.2), .no, .no, .no, .no, .no, .no, .no, .no, .no, .no, .no, .no, .no, .no, .no, .no, .no, .no, .no, .no, .no, .no, .no]) (i := 5) (Γ' := [.im (pv K box), .im (pv K z689.1), .im (pv K z689.2), .im (pv K z693.1), .im (pv K z693.2), .im (pv K z694.a), .no, .no, .no, .no, .no, .no, .no, .no, .no, .no, .no, .no, .no, .no, .no, .no, .no, .no, .no, .no, .no, .no]) rfl rfl) (gt_name (Γ := [.im (pv K box), .im (pv K z689.1), .im (pv K z689.2), .im (pv K z693.1), .im (pv K z693.2), .im (pv K z694.a), .no, .no, .no, .no, .no, .no, .no, .no, .no, .no, .no, .no, .no, .no, .no, .no, .no, .no, .no, .no, .no, .no]) (i := 6) (Γ' := [.im (pv K box), .im (pv K z689.1), .im (pv K z689.2), .im (pv K z693.1), .im (pv K z693.2), .im (pv K z694.a), .im (pv K z694.b), .no, .no, .no, .no, .no, .no, .no, .no, .no, .no, .no, .no, .no, .no, .no, .no, .no, .no, .no, .no, .no]) rfl rfl) (gt_name (Γ := [.im (pv K box), .im (pv K z689.1), .im (pv K z689.2), .im (pv K z693.1), .im (pv K z693.2), .im (pv K z694.a), .im (pv K z694.b), .no, .no, .no, .no, .no, .no, .no, .no, .no, .no, .no, .no, .no, .no, .no, .no, .no, .no, .no, .no, .no]) (i := 7) (Γ' := [.im (pv K box), .im (pv K z689.1), .im (pv K z689.2), .im (pv K z693.1), .im (pv K z693.2), .im (pv K z694.a), .im (pv K z694.b), .im (pv K z694.c), .no, .no, .no, .no, .no, .no, .no, .no, .no, .no, .no, .no, .no, .no, .no, .no, .no, .no, .no, .no]) rfl rfl) (gt_name (Γ := [.im (pv K box), .im (pv K z689.1), .im (pv K z689.2), .im (pv K z693.1), .im (pv K z693.2), .im (pv K z694.a), .im (pv K z694.b), .im (pv K z694.c), .no, .no, .no, .no, .no, .no, .no, .no, .no, .no, .no, .no, .no, .no, .no, .no, .no, .no, .no, .no]) (i := 8) (Γ' := [.im (pv K box), .im (pv K z689.1), .im (pv K z689.2), .im (pv K z693.1), .im (pv K z693.2), .im (pv K z694.a), .im (pv K z694.b), .im (pv K z694.c), .im (pv K z694.d), .no, .no, .no, .no, .no, .no, .no, .no, .no, .no, .no, .no, .no, .no, .no, .no, .no, .no, .no]) rfl rfl) (gt_name (Γ := [.im (pv K box), .im (pv K z689.1), .im (pv K z689.2), .im (pv K z693.1), .im (pv K z693.2), .im (pv K z694.a), .im (pv K z694.b), .im (pv K z694.c), .im (pv K z694.d), .no, .no, .no, .no, .no, .no, .no, .no, .no, .no, .no, .no, .no, .no, .no, .no, .no, .no, .no]) (i := 9) (Γ' := [.im (pv K box), .im (pv K z689.1), .im (pv K z689.2), .im (pv K z693.1), .im (pv K z693.2), .im (pv K z694.a), .im (pv K z694.b), .im (pv K z694.c), .im (pv K z694.d), .im (pv K z694.e), .no, .no, .no, .no, .no, .no, .no, .no, .no, .no, .no, .no, .no, .no, .no, .no, .no, .no]) rfl rfl))) fun z694 => (rt_seq (rp_asg2 (Γ' := fun z717 (s : (Sto K)) => [.im (pv K box), .im (pv K z689.1), .im (pv K z689.2), .im (pv K z693.1), .im (pv K z693.2), .im (pv K z694.a), .im (pv K z694.b), .im (pv K z694.c), .im (pv K z694.d), .im (pv K z694.e), .im (pv K z717.1), .im (pv K z717.2.1), .no, .no, .no, .no, .no, .no, .no, .no, .no, .no, .no, .no, .no, .no, .no, .no]) (ao_m (em_own (eo_make (g := fun (z705 : Int × Int × Int × Int × Int × Unit) => (z705.1, z705.2.1, z705.2.2.1, z705.2.2.2.1, z705.2.2.2.2.1)) (am_cons (em_pure fun _ => (ep_var rfl)) (am_cons (em_pure fun _ => (ep_var rfl)) (am_cons (em_pure fun _ => (ep_var rfl)) (am_cons (em_pure fun _ => (ep_var rfl)) (am_cons (em_pure fun _ => (ep_var rfl)) am_nil))))) fun _ => rfl) fun x I a Ma d q => fr_oin hc_Array I a Ma d q) (ao_m (em_own (eo_make (g := fun (z716 : Int × Int × Int × Int × Int × Unit) => (z716.1, z716.2.1, z716.2.2.1, z716.2.2.2.1, z716.2.2.2.2.1)) (am_cons (em_pure fun _ => (ep_op (ep_var rfl) (ep_int (K := K)) pr5_0)) (am_cons (em_pure fun _ => (ep_op (ep_var rfl) (ep_int (K := K)) pr5_1)) (am_cons (em_pure fun _ => (ep_op (ep_var rfl) (ep_int (K := K)) pr5_2)) (am_cons (em_pure fun _ => (ep_op (ep_var rfl) (ep_int (K := K)) pr5_3)) (am_cons (em_pure fun _ => (ep_op (ep_var rfl) (ep_int (K := K)) pr5_4)) am_nil))))) fun _ => rfl) fun x I a Ma d q => fr_oin hc_Array I a Ma d q) ao_nil)) (fun _ => asg_ok rfl) (fun _ => rfl) (fun _ => rfl) fun _ _ => rfl) fun z717 => (rt_seq (rp_asg (Γ := fun (s : (Sto K)) => [.im (pv K box), .im (pv K z689.1), .im (pv K z689.2), .im (pv K z693.1), .im (pv K z693.2), .im (pv K z694.a), .im (pv K z694.b), .im (pv K z694.c), .im (pv K z694.d), .im (pv K z694.e), .im (pv K z717.1), .im (pv K z717.2.1), .no, .no, .no, .no, .no, .no, .no, .no, .no, .no, .no, .no, .no, .no, .no, .no]) (i := 12) (Γ' := fun number727 (s : (Sto K)) => [.im (pv K box), .im (pv K z689.1), .im (pv K z689.2), .im (pv K z693.1), .im (pv K z693.2), .im (pv K z694.a), .im (pv K z694.b), .im (pv K z694.c), .im (pv K z694.d), .im (pv K z694.e), .im (pv K z717.1), .im (pv K z717.2.1), .im (pv K number727), .no, .no, .no, .no, .no, .no, .no, .no, .no, .no, .no, .no, .no, .no, .no]) (em_of_eo (eo_callS (f := fun (z726 : Ref × Int × Unit) => (z726.1, z726.2.1)) (am_cons (em_pure fun _ => (ep_var rfl)) (am_cons (em_pure fun _ => (ep_op (ep_var rfl) (ep_int (K := K)) pr5_1)) am_nil)) (fun _ _ => rfl) fun _ _ => rfl)) (fun _ => rfl) fun _ _ => rfl) fun number727 => (rt_seq (rp_asgT (Γ' := fun z728 (s : (Sto K)) => [.im (pv K box), .im (pv K z689.1), .im (pv K z689.2), .im (pv K z693.1), .im (pv K z693.2), .im (pv K z694.a), .im (pv K z694.b), .im (pv K z694.c), .im (pv K z694.d), .im (pv K z694.e), .im (pv K z717.1), .im (pv K z717.2.1), .im (pv K number727), .im (pv K z728.1), .im (pv K z728.2.1), .no, .no, .no, .no, .no, .no, .no, .no, .no, .no, .no, .no, .no]) [13, 14] (ao_m (em_of_eo (eo_call0 (i := (z689.2, number727)) (ps := [pv K z689.2, pv K number727]) (fun _ => (ap_cons (ep_var rfl) (ap_cons (ep_var rfl) ap_nil))) rfl)) (ao_m (em_of_eo (eo_call0 (i := (z694.c, z694.d, number727)) (ps := [pv K z694.c, pv K z694.d, pv K number727]) (fun _ => (ap_cons (ep_var rfl) (ap_cons (ep_var rfl) (ap_cons (ep_var rfl) ap_nil)))) rfl)) ao_nil)) (fun _ => asg_ok rfl) (fun _ => rfl) (fun _ => rfl) (Nat.le_of_ble_eq_true rfl) fun _ _ => rfl) fun z728 => (rt_ifr (tm_or (tm_test (em_opr (g := fun (u : (Tu Int)) (v : (Tu Int)) => (!decide (u = v))) (em_of_eo (eo_call0M (f := fun (z737 : C_Array × (Sq Int) × Unit) => (z737.1, z737.2.1)) (am_cons (em_pure fun _ => (ep_var rfl)) (am_cons (em_sqL (em_ownL (eo_listL fun _ => ap_cons (ep_var rfl) ap_nil))) am_nil)) fun _ => rfl)) (fun _ => (ep_var rfl)) fun _ => (o_neDt (Nat.le_of_ble_eq_true rfl)))) (tm_test (em_opr (g := fun (u : Int) (v : Int) => (!decide (u = v))) (em_of_eo (eo_call0 (i := (z717.1, ((Sq.mk true ((Tu.mk z728.2.1) : (Tu Int)).l) : (Sq Int)))) (ps := [pv K z717.1, pv K ((Sq.mk true ((Tu.mk z728.2.1) : (Tu Int)).l) : (Sq Int))]) (fun _ => (ap_cons (ep_var rfl) (ap_cons (ep_sqT (ep_cb (ap_cons (ep_var rfl) ap_nil) c_tupL)) ap_nil))) rfl)) (fun _ => (ep_var rfl)) fun _ => o_ne))) (rt_ret (em_pure fun _ => (ep_bl (K := K))) fun s => (.cons (.no _) (.cons (.no _) (.cons (.no _) (.cons (.no _) (.cons (.no _) (.cons (.no _) (.cons (.no _) (.cons (.no _) (.cons (.no _) (.cons (.no _) (.cons (.no _) (.cons (.no _) (.cons (.no _) (.cons (.no _) (.cons (.no _) (.cons (.rfl _) (.cons (.rfl _) (.cons (.rfl _) (.cons (.rfl _) (.cons (.rfl _) (.cons (.rfl _) (.cons (.rfl _) (.cons (.rfl _) (.cons (.rfl _) (.cons (.rfl _) (.cons (.rfl _) (.cons (.rfl _) (.cons (.rfl _) .nil))))))))))))))))))))))))))))) (rt_seq (rp_asg3 (Γ' := fun z750 (s : (Sto K)) => [.im (pv K box), .im (pv K z689.1), .im (pv K z689.2), .im (pv K z693.1), .im (pv K z693.2), .im (pv K z694.a), .im (pv K z694.b), .im (pv K z694.c), .im (pv K z694.d), .im (pv K z694.e), .im (pv K z717.1), .im (pv K z717.2.1), .im (pv K number727), .im (pv K z728.1), .im (pv K z728.2.1), .im (pv K z750.1), .im (pv K (([] : (List Int)) : (List Int))), .im (pv K true), .no, .no, .no, .no, .no, .no, .no, .no, .no, .no]) (ao_m (em_of_eo (eo_callS (f := fun (z749 : Ref × (Tu Int) × Int × Unit) => (z749.1, z749.2.1, z749.2.2.1)) (am_cons (em_pure fun _ => (ep_var rfl)) (am_cons (em_pure fun _ => (ep_var rfl)) (am_cons (em_pure fun _ => (ep_var rfl)) am_nil))) (fun _ _ => rfl) fun _ _ => rfl)) (ao_p (fun _ => (ep_lst (xs := ([] : (List Int))) (hl := Nat.le_of_ble_eq_true rfl) ap_nil)) (ao_p (fun _ => (ep_bl (K := K))) ao_nil))) (fun _ => asg_ok rfl) (fun _ => rfl) (fun _ => rfl) fun _ _ => rfl) fun z750 => (rt_seqC (rc_for (β := Empty) (Γb := fun b _ => nomatch b) (Γr := (fun (s : (Sto K)) => [.no, .no, .no, .no, .no, .no, .no, .no, .no, .no, .no, .no, .no, .no, .no, .no, .no, .no, .no, .no, .no, .no, .no, .no, .no, .no, .no, .no])) (ΓL := fun (t753 : (List (Int × Int)) × (List Int) × Bool) (s : (Sto K)) => [.im (pv K box), .im (pv K z689.1), .im (pv K z689.2), .im (pv K z693.1), .im (pv K z693.2), .im (pv K z694.a), .im (pv K z694.b), .im (pv K z694.c), .im (pv K z694.d), .im (pv K z694.e), .im (pv K z717.1), .im (pv K z717.2.1), .im (pv K number727), .im (pv K z728.1), .im (pv K z728.2.1), .im (pv K t753.1), .im (pv K t753.2.1), .im (pv K t753.2.2), .no, .no, .no, .no, .no, .no, .no, .no, .no, .no]) (Γx := fun (a754 : Int) (t753 : (List (Int × Int)) × (List Int) × Bool) (s : (Sto K)) => [.im (pv K box), .im (pv K z689.1), .im (pv K z689.2), .im (pv K z693.1), .im (pv K z693.2), .im (pv K z694.a), .im (pv K z694.b), .im (pv K z694.c), .im (pv K z694.d), .im (pv K z694.e), .im (pv K z717.1), .im (pv K z717.2.1), .im (pv K number727), .im (pv K z728.1), .im (pv K z728.2.1), .im (pv K t753.1), .im (pv K t753.2.1), .im (pv K t753.2.2), .im (pv K a754), .no, .no, .no, .no, .no, .no, .no, .no, .no]) (im_rng1 fun _ => (ap_cons (ep_int (K := K)) ap_nil)) (fun s => (.cons (.rfl _) (.cons (.rfl _) (.cons (.rfl _) (.cons (.rfl _) (.cons (.rfl _) (.cons (.rfl _) (.cons (.rfl _) (.cons (.rfl _) (.cons (.rfl _) (.cons (.rfl _) (.cons (.rfl _) (.cons (.rfl _) (.cons (.rfl _) (.cons (.rfl _) (.cons (.rfl _) (.cons (.rfl _) (.cons (.rfl _) (.cons (.rfl _) (.cons (.rfl _) (.cons (.rfl _) (.cons (.rfl _) (.cons (.rfl _) (.cons (.rfl _) (.cons (.rfl _) (.cons (.rfl _) (.cons (.rfl _) (.cons (.rfl _) (.cons (.rfl _) .nil))))))))))))))))))))))))))))) (fun a754 t753 s => (gt_name (Γ := [.im (pv K box), .im (pv K z689.1), .im (pv K z689.2), .im (pv K z693.1), .im (pv K z693.2), .im (pv K z694.a), .im (pv K z694.b), .im (pv K z694.c), .im (pv K z694.d), .im (pv K z694.e), .im (pv K z717.1), .im (pv K z717.2.1), .im (pv K number727), .im (pv K z728.1), .im (pv K z728.2.1), .im (pv K t753.1), .im (pv K t753.2.1), .im (pv K t753.2.2), .no, .no, .no, .no, .no, .no, .no, .no, .no, .no]) (i := 18) (Γ' := [.im (pv K box), .im (pv K z689.1), .im (pv K z689.2), .im (pv K z693.1), .im (pv K z693.2), .im (pv K z694.a), .im (pv K z694.b), .im (pv K z694.c), .im (pv K z694.d), .im (pv K z694.e), .im (pv K z717.1), .im (pv K z717.2.1), .im (pv K number727), .im (pv K z728.1), .im (pv K z728.2.1), .im (pv K t753.1), .im (pv K t753.2.1), .im (pv K t753.2.2), .im (pv K a754), .no, .no, .no, .no, .no, .no, .no, .no, .no]) rfl rfl)) fun a754 t753 => (rc_seqP (rp_for (ΓL := fun (t755 : (List Int)) (s : (Sto K)) => [.im (pv K box), .im (pv K z689.1), .im (pv K z689.2), .im (pv K z693.1), .im (pv K z693.2), .im (pv K z694.a), .im (pv K z694.b), .im (pv K z694.c), .im (pv K z694.d), .im (pv K z694.e), .im (pv K z717.1), .im (pv K z717.2.1), .im (pv K number727), .im (pv K z728.1), .im (pv K z728.2.1), .im (pv K t753.1), .im (pv K t755), .im (pv K t753.2.2), .im (pv K a754), .no, .no, .no, .no, .no, .no, .no, .no, .no]) (Γx := fun (a764 : Int) (t755 : (List Int)) (s : (Sto K)) => [.im (pv K box), .im (pv K z689.1), .im (pv K z689.2), .im (pv K z693.1), .im (pv K z693.2), .im (pv K z694.a), .im (pv K z694.b), .im (pv K z694.c), .im (pv K z694.d), .im (pv K z694.e), .im (pv K z717.1), .im (pv K z717.2.1), .im (pv K number727), .im (pv K z728.1), .im (pv K z728.2.1), .im (pv K t753.1), .im (pv K t755), .im (pv K t753.2.2), .im (pv K a754), .im (pv K a764), .no, .no, .no, .no, .no, .no, .no, .no]) (im_rng1M (f := fun (z763 : Int × Unit) => z763.1) (am_cons (em_of_eo (eo_callS (f := fun (z760 : Ref × Int × Unit) => (z760.1, z760.2.1)) (am_cons (em_pure fun _ => (ep_var rfl)) (am_cons (em_pure fun _ => (ep_int (K := K))) am_nil)) (fun _ _ => rfl) fun _ _ => rfl)) am_nil)) (fun s => (.cons (.rfl _) (.cons (.rfl _) (.cons (.rfl _) (.cons (.rfl _) (.cons (.rfl _) (.cons (.rfl _) (.cons (.rfl _) (.cons (.rfl _) (.cons (.rfl _) (.cons (.rfl _) (.cons (.rfl _) (.cons (.rfl _) (.cons (.rfl _) (.cons (.rfl _) (.cons (.rfl _) (.cons (.rfl _) (.cons (.rfl _) (.cons (.rfl _) (.cons (.rfl _) (.cons (.rfl _) (.cons (.rfl _) (.cons (.rfl _) (.cons (.rfl _) (.cons (.rfl _) (.cons (.rfl _) (.cons (.rfl _) (.cons (.rfl _) (.cons (.rfl _) .nil))))))))))))))))))))))))))))) (fun a764 t755 s => (gt_name (Γ := [.im (pv K box), .im (pv K z689.1), .im (pv K z689.2), .im (pv K z693.1), .im (pv K z693.2), .im (pv K z694.a), .im (pv K z694.b), .im (pv K z694.c), .im (pv K z694.d), .im (pv K z694.e), .im (pv K z717.1), .im (pv K z717.2.1), .im (pv K number727), .im (pv K z728.1), .im (pv K z728.2.1), .im (pv K t753.1), .im (pv K t755), .im (pv K t753.2.2), .im (pv K a754), .no, .no, .no, .no, .no, .no, .no, .no, .no]) (i := 19) (Γ' := [.im (pv K box), .im (pv K z689.1), .im (pv K z689.2), .im (pv K z693.1), .im (pv K z693.2), .im (pv K z694.a), .im (pv K z694.b), .im (pv K z694.c), .im (pv K z694.d), .im (pv K z694.e), .im (pv K z717.1), .im (pv K z717.2.1), .im (pv K number727), .im (pv K z728.1), .im (pv K z728.2.1), .im (pv K t753.1), .im (pv K t755), .im (pv K t753.2.2), .im (pv K a754), .im (pv K a764), .no, .no, .no, .no, .no, .no, .no, .no]) rfl rfl)) fun a764 t755 => (rp_seq (rp_asg (Γ := fun (s : (Sto K)) => [.im (pv K box), .im (pv K z689.1), .im (pv K z689.2), .im (pv K z693.1), .im (pv K z693.2), .im (pv K z694.a), .im (pv K z694.b), .im (pv K z694.c), .im (pv K z694.d), .im (pv K z694.e), .im (pv K z717.1), .im (pv K z717.2.1), .im (pv K number727), .im (pv K z728.1), .im (pv K z728.2.1), .im (pv K t753.1), .im (pv K t755), .im (pv K t753.2.2), .im (pv K a754), .im (pv K a764), .no, .no, .no, .no, .no, .no, .no, .no]) (i := 20) (Γ' := fun disk770 (s : (Sto K)) => [.im (pv K box), .im (pv K z689.1), .im (pv K z689.2), .im (pv K z693.1), .im (pv K z693.2), .im (pv K z694.a), .im (pv K z694.b), .im (pv K z694.c), .im (pv K z694.d), .im (pv K z694.e), .im (pv K z717.1), .im (pv K z717.2.1), .im (pv K number727), .im (pv K z728.1), .im (pv K z728.2.1), .im (pv K t753.1), .im (pv K t755), .im (pv K t753.2.2), .im (pv K a754), .im (pv K a764), .im (pv K disk770), .no, .no, .no, .no, .no, .no, .no]) (em_of_eo (eo_callS (f := fun (z769 : Ref × Int × Unit) => (z769.1, z769.2.1)) (am_cons (em_pure fun _ => (ep_var rfl)) (am_cons (em_pure fun _ => (ep_var rfl)) am_nil)) (fun _ _ => rfl) fun _ _ => rfl)) (fun _ => rfl) fun _ _ => rfl) fun disk770 => (rp_post (f := fun gone774 => gone774) (rp_asg (Γ := fun (s : (Sto K)) => [.im (pv K box), .im (pv K z689.1), .im (pv K z689.2), .im (pv K z693.1), .im (pv K z693.2), .im (pv K z694.a), .im (pv K z694.b), .im (pv K z694.c), .im (pv K z694.d), .im (pv K z694.e), .im (pv K z717.1), .im (pv K z717.2.1), .im (pv K number727), .im (pv K z728.1), .im (pv K z728.2.1), .im (pv K t753.1), .im (pv K t755), .im (pv K t753.2.2), .im (pv K a754), .im (pv K a764), .im (pv K disk770), .no, .no, .no, .no, .no, .no, .no]) (i := 16) (Γ' := fun gone774 (s : (Sto K)) => [.im (pv K box), .im (pv K z689.1), .im (pv K z689.2), .im (pv K z693.1), .im (pv K z693.2), .im (pv K z694.a), .im (pv K z694.b), .im (pv K z694.c), .im (pv K z694.d), .im (pv K z694.e), .im (pv K z717.1), .im (pv K z717.2.1), .im (pv K number727), .im (pv K z728.1), .im (pv K z728.2.1), .im (pv K t753.1), .im (pv K gone774), .im (pv K t753.2.2), .im (pv K a754), .im (pv K a764), .im (pv K disk770), .no, .no, .no, .no, .no, .no, .no]) (em_cb (f := fun (z773 : (List Int) × Unit) => (srt z773.1)) (am_cons (em_opC2 (fun _ => (ep_var rfl)) (fun _ => (ep_if (tp_and (tp_test (ep_op (ep_cb (ap_cons (ep_var rfl) ap_nil) c_lenL) (ep_var rfl) o_lt)) fun _ => (tp_test (ep_op (ep_var rfl) (ep_var rfl) o_notIn))) (fun _ => (ep_lst (xs := ([disk770] : (List Int))) (hl := Nat.le_of_ble_eq_true rfl) (ap_cons (ep_var rfl) ap_nil))) fun _ => (ep_lst (xs := ([] : (List Int))) (hl := Nat.le_of_ble_eq_true rfl) ap_nil))) fun h => o_cat h) am_nil) fun _ => c_sorted) (fun _ => rfl) fun _ _ => rfl) fun gone774 s => (.cons (.rfl _) (.cons (.rfl _) (.cons (.rfl _) (.cons (.rfl _) (.cons (.rfl _) (.cons (.rfl _) (.cons (.rfl _) (.cons (.rfl _) (.cons (.rfl _) (.cons (.rfl _) (.cons (.rfl _) (.cons (.rfl _) (.cons (.rfl _) (.cons (.rfl _) (.cons (.rfl _) (.cons (.rfl _) (.cons (.rfl _) (.cons (.rfl _) (.cons (.rfl _) (.cons (.no _) (.cons (.no _) (.cons (.rfl _) (.cons (.rfl _) (.cons (.rfl _) (.cons (.rfl _) (.cons (.rfl _) (.cons (.rfl _) (.cons (.rfl _) .nil))))))))))))))))))))))))))))))) fun t775 => (rc_seqP (rp_asg (Γ := fun (s : (Sto K)) => [.im (pv K box), .im (pv K z689.1), .im (pv K z689.2), .im (pv K z693.1), .im (pv K z693.2), .im (pv K z694.a), .im (pv K z694.b), .im (pv K z694.c), .im (pv K z694.d), .im (pv K z694.e), .im (pv K z717.1), .im (pv K z717.2.1), .im (pv K number727), .im (pv K z728.1), .im (pv K z728.2.1), .im (pv K t753.1), .im (pv K t775), .im (pv K t753.2.2), .im (pv K a754), .no, .no, .no, .no, .no, .no, .no, .no, .no]) (i := 15) (Γ' := fun view776 (s : (Sto K)) => [.im (pv K box), .im (pv K z689.1), .im (pv K z689.2), .im (pv K z693.1), .im (pv K z693.2), .im (pv K z694.a), .im (pv K z694.b), .im (pv K z694.c), .im (pv K z694.d), .im (pv K z694.e), .im (pv K z717.1), .im (pv K z717.2.1), .im (pv K number727), .im (pv K z728.1), .im (pv K z728.2.1), .im (pv K view776), .im (pv K t775), .im (pv K t753.2.2), .im (pv K a754), .no, .no, .no, .no, .no, .no, .no, .no, .no]) (em_of_eo (eo_call0 (i := (t753.1, z694.a, t775)) (ps := [pv K t753.1, pv K z694.a, pv K t775]) (fun _ => (ap_cons (ep_var rfl) (ap_cons (ep_var rfl) (ap_cons (ep_var rfl) ap_nil)))) rfl)) (fun _ => rfl) fun _ _ => rfl) fun view776 => (rc_seqP (rp_asg (Γ := fun (s : (Sto K)) => [.im (pv K box), .im (pv K z689.1), .im (pv K z689.2), .im (pv K z693.1), .im (pv K z693.2), .im (pv K z694.a), .im (pv K z694.b), .im (pv K z694.c), .im (pv K z694.d), .im (pv K z694.e), .im (pv K z717.1), .im (pv K z717.2.1), .im (pv K number727), .im (pv K z728.1), .im (pv K z728.2.1), .im (pv K view776), .im (pv K t775), .im (pv K t753.2.2), .im (pv K a754), .no, .no, .no, .no, .no, .no, .no, .no, .no]) (i := 21) (Γ' := fun due777 (s : (Sto K)) => [.im (pv K box), .im (pv K z689.1), .im (pv K z689.2), .im (pv K z693.1), .im (pv K z693.2), .im (pv K z694.a), .im (pv K z694.b), .im (pv K z694.c), .im (pv K z694.d), .im (pv K z694.e), .im (pv K z717.1), .im (pv K z717.2.1), .im (pv K number727), .im (pv K z728.1), .im (pv K z728.2.1), .im (pv K view776), .im (pv K t775), .im (pv K t753.2.2), .im (pv K a754), .no, .no, .im (pv K due777), .no, .no, .no, .no, .no, .no]) (em_of_eo (eo_call0 (i := (z717.1, view776, z728.1, z728.2.1, z689.2.c, t753.2.2)) (ps := [pv K z717.1, pv K view776, pv K z728.1, pv K z728.2.1, pv K z689.2.c, pv K t753.2.2]) (fun _ => (ap_cons (ep_var rfl) (ap_cons (ep_var rfl) (ap_cons (ep_var rfl) (ap_cons (ep_var rfl) (ap_cons (ep_op (ep_var rfl) (ep_int (K := K)) pr5_2) (ap_cons (ep_var rfl) ap_nil))))))) rfl)) (fun _ => rfl) fun _ _ => rfl) fun due777 => (rc_seqP (rp_asg (Γ := fun (s : (Sto K)) => [.im (pv K box), .im (pv K z689.1), .im (pv K z689.2), .im (pv K z693.1), .im (pv K z693.2), .im (pv K z694.a), .im (pv K z694.b), .im (pv K z694.c), .im (pv K z694.d), .im (pv K z694.e), .im (pv K z717.1), .im (pv K z717.2.1), .im (pv K number727), .im (pv K z728.1), .im (pv K z728.2.1), .im (pv K view776), .im (pv K t775), .im (pv K t753.2.2), .im (pv K a754), .no, .no, .im (pv K due777), .no, .no, .no, .no, .no, .no]) (i := 22) (Γ' := fun far_word778 (s : (Sto K)) => [.im (pv K box), .im (pv K z689.1), .im (pv K z689.2), .im (pv K z693.1), .im (pv K z693.2), .im (pv K z694.a), .im (pv K z694.b), .im (pv K z694.c), .im (pv K z694.d), .im (pv K z694.e), .im (pv K z717.1), .im (pv K z717.2.1), .im (pv K number727), .im (pv K z728.1), .im (pv K z728.2.1), .im (pv K view776), .im (pv K t775), .im (pv K t753.2.2), .im (pv K a754), .no, .no, .im (pv K due777), .im (pv K far_word778), .no, .no, .no, .no, .no]) (em_of_eo (eo_call0 (i := (z693.2, ((0 : Int) : Int))) (ps := [pv K z693.2, pv K ((0 : Int) : Int)]) (fun _ => (ap_cons (ep_var rfl) (ap_cons (ep_int (K := K)) ap_nil))) rfl)) (fun _ => rfl) fun _ _ => rfl) fun far_word778 => (rc_ifr (tm_or (tm_pure fun _ => (tp_test (ep_op (ep_var rfl) (ep_non (K := K)) o_isNopt))) (tm_test (em_op (g := fun (u : (Option (List Int))) (v : (Option (List Int))) => (!decide (u = v))) (em_ownO (eo_call0M (f := fun (z791 : C_Array × (Sq (Int × Int)) × Unit) => (z791.1, z791.2.1)) (am_cons (em_pure fun _ => (ep_var rfl)) (am_cons (em_sqL (em_lc (Γx := fun (a779 : Int) (s : (Sto K)) => [.im (pv K box), .im (pv K z689.1), .im (pv K z689.2), .im (pv K z693.1), .im (pv K z693.2), .im (pv K z694.a), .im (pv K z694.b), .im (pv K z694.c), .im (pv K z694.d), .im (pv K z694.e), .im (pv K z717.1), .im (pv K z717.2.1), .im (pv K number727), .im (pv K z728.1), .im (pv K z728.2.1), .im (pv K view776), .im (pv K t775), .im (pv K t753.2.2), .im (pv K a754), .im (pv K a779), .no, .im (pv K due777), .im (pv K far_word778), .no, .no, .no, .no, .no]) (js := [19]) (im_rng1 fun _ => (ap_cons (ep_cb (ap_cons (ep_var rfl) ap_nil) c_lenT) ap_nil)) (fun _ => rfl) (fun a779 s => (gt_name (Γ := [.im (pv K box), .im (pv K z689.1), .im (pv K z689.2), .im (pv K z693.1), .im (pv K z693.2), .im (pv K z694.a), .im (pv K z694.b), .im (pv K z694.c), .im (pv K z694.d), .im (pv K z694.e), .im (pv K z717.1), .im (pv K z717.2.1), .im (pv K number727), .im (pv K z728.1), .im (pv K z728.2.1), .im (pv K view776), .im (pv K t775), .im (pv K t753.2.2), .im (pv K a754), .no, .no, .im (pv K due777), .im (pv K far_word778), .no, .no, .no, .no, .no]) (i := 19) (Γ' := [.im (pv K box), .im (pv K z689.1), .im (pv K z689.2), .im (pv K z693.1), .im (pv K z693.2), .im (pv K z694.a), .im (pv K z694.b), .im (pv K z694.c), .im (pv K z694.d), .im (pv K z694.e), .im (pv K z717.1), .im (pv K z717.2.1), .im (pv K number727), .im (pv K z728.1), .im (pv K z728.2.1), .im (pv K view776), .im (pv K t775), .im (pv K t753.2.2), .im (pv K a754), .im (pv K a779), .no, .im (pv K due777), .im (pv K far_word778), .no, .no, .no, .no, .no]) rfl rfl)) rfl (fun a779 => tm_yes) (fun a779 => (em_tup (f := fun (z786 : Int × Int × Unit) => (z786.1, z786.2.1)) (am_cons (em_pure fun _ => (ep_var rfl)) (am_cons (em_ixTp (fun _ => (ep_var rfl)) fun _ => (ep_var rfl)) am_nil)) fun z786 => tup2)) fun a779 s => (.cons (.rfl _) (.cons (.rfl _) (.cons (.rfl _) (.cons (.rfl _) (.cons (.rfl _) (.cons (.rfl _) (.cons (.rfl _) (.cons (.rfl _) (.cons (.rfl _) (.cons (.rfl _) (.cons (.rfl _) (.cons (.rfl _) (.cons (.rfl _) (.cons (.rfl _) (.cons (.rfl _) (.cons (.rfl _) (.cons (.rfl _) (.cons (.rfl _) (.cons (.rfl _) (.cons (.no _) (.cons (.rfl _) (.cons (.rfl _) (.cons (.rfl _) (.cons (.rfl _) (.cons (.rfl _) (.cons (.rfl _) (.cons (.rfl _) (.cons (.rfl _) .nil)))))))))))))))))))))))))))))) am_nil)) fun _ => rfl)) (em_someN (em_ownL (eo_listRg1 fun _ => (ep_op (ep_var rfl) (ep_int (K := K)) pr5_3)))) fun _ _ => (o_neDt (Nat.le_of_ble_eq_true rfl))))) (rx_ret (rt_ret (em_pure fun _ => (ep_bl (K := K))) fun s => (.cons (.no _) (.cons (.no _) (.cons (.no _) (.cons (.no _) (.cons (.no _) (.cons (.no _) (.cons (.no _) (.cons (.no _) (.cons (.no _) (.cons (.no _) (.cons (.no _) (.cons (.no _) (.cons (.no _) (.cons (.no _) (.cons (.no _) (.cons (.no _) (.cons (.no _) (.cons (.no _) (.cons (.no _) (.cons (.rfl _) (.cons (.rfl _) (.cons (.no _) (.cons (.no _) (.cons (.rfl _) (.cons (.rfl _) (.cons (.rfl _) (.cons (.rfl _) (.cons (.rfl _) .nil)))))))))))))))))))))))))))))) (rc_seqP (rp_asg2 (Γ' := fun z802 (s : (Sto K)) => [.im (pv K box), .im (pv K z689.1), .im (pv K z689.2), .im (pv K z693.1), .im (pv K z693.2), .im (pv K z694.a), .im (pv K z694.b), .im (pv K z694.c), .im (pv K z694.d), .im (pv K z694.e), .im (pv K z717.1), .im (pv K z717.2.1), .im (pv K number727), .im (pv K z728.1), .im (pv K z728.2.1), .im (pv K view776), .im (pv K t775), .im (pv K z802.1), .im (pv K a754), .no, .no, .im (pv K due777), .im (pv K far_word778), .ow (ol K z802.2.1), .no, .no, .no, .no]) (ao_m (em_unopt fun _ => (ep_var rfl)) (ao_o (eo_call0M (f := fun (z801 : (List (Int × Int)) × (Tu Int) × Bool × Unit) => (z801.1, z801.2.1, z801.2.2.1)) (am_cons (em_pure fun _ => (ep_var rfl)) (am_cons (em_pure fun _ => (ep_var rfl)) (am_cons (em_unopt fun _ => (ep_var rfl)) am_nil))) fun _ => rfl) ao_nil)) (fun _ => asg_ok rfl) (fun _ => rfl) (fun _ => rfl) fun _ _ => rfl) fun z802 => (rc_seqP (rp_asg (Γ := fun (s : (Sto K)) => [.im (pv K box), .im (pv K z689.1), .im (pv K z689.2), .im (pv K z693.1), .im (pv K z693.2), .im (pv K z694.a), .im (pv K z694.b), .im (pv K z694.c), .im (pv K z694.d), .im (pv K z694.e), .im (pv K z717.1), .im (pv K z717.2.1), .im (pv K number727), .im (pv K z728.1), .im (pv K z728.2.1), .im (pv K view776), .im (pv K t775), .im (pv K z802.1), .im (pv K a754), .no, .no, .im (pv K due777), .im (pv K far_word778), .ow (ol K z802.2.1), .no, .no, .no, .no]) (i := 24) (Γ' := fun done818 (s : (Sto K)) => [.im (pv K box), .im (pv K z689.1), .im (pv K z689.2), .im (pv K z693.1), .im (pv K z693.2), .im (pv K z694.a), .im (pv K z694.b), .im (pv K z694.c), .im (pv K z694.d), .im (pv K z694.e), .im (pv K z717.1), .im (pv K z717.2.1), .im (pv K number727), .im (pv K z728.1), .im (pv K z728.2.1), .im (pv K view776), .im (pv K t775), .im (pv K z802.1), .im (pv K a754), .no, .no, .im (pv K due777), .im (pv K far_word778), .ow (ol K z802.2.1), .im (pv K done818), .no, .no, .no]) (em_if (tm_pure fun _ => (tp_bor (Γ0 := [.im (pv K box), .im (pv K z689.1), .im (pv K z689.2), .im (pv K z693.1), .im (pv K z693.2), .im (pv K z694.a), .im (pv K z694.b), .im (pv K z694.c), .im (pv K z694.d), .im (pv K z694.e), .im (pv K z717.1), .im (pv K z717.2.1), .im (pv K number727), .im (pv K z728.1), .im (pv K z728.2.1), .im (pv K view776), .im (pv K t775), .im (pv K z802.1), .im (pv K a754), .no, .no, .im (pv K due777), .im (pv K far_word778), .im (pv K z802.2.1), .no, .no, .no, .no]) (.cons (.rfl _) (.cons (.rfl _) (.cons (.rfl _) (.cons (.rfl _) (.cons (.rfl _) (.cons (.rfl _) (.cons (.rfl _) (.cons (.rfl _) (.cons (.rfl _) (.cons (.rfl _) (.cons (.rfl _) (.cons (.rfl _) (.cons (.rfl _) (.cons (.rfl _) (.cons (.rfl _) (.cons (.rfl _) (.cons (.rfl _) (.cons (.rfl _) (.cons (.rfl _) (.cons (.rfl _) (.cons (.rfl _) (.cons (.rfl _) (.cons (.rfl _) (.cons (.fr fr_ol) (.cons (.rfl _) (.cons (.rfl _) (.cons (.rfl _) (.cons (.rfl _) .nil)))))))))))))))))))))))))))) rfl (tp_and (tp_test (ep_op (ep_var rfl) (ep_int (K := K)) o_lt)) fun _ => (tp_test (ep_op (ep_var rfl) (ep_lst (xs := ([] : (List (Int × Int)))) (hl := Nat.le_of_ble_eq_true rfl) ap_nil) (o_neDt (Nat.le_of_ble_eq_true rfl))))))) (em_of_eo (eo_callS (f := fun (z811 : Ref × Int × Unit) => (z811.1, z811.2.1)) (am_cons (em_pure fun _ => (ep_var rfl)) (am_cons (em_pure fun _ => (ep_bor (Γ0 := [.im (pv K box), .im (pv K z689.1), .im (pv K z689.2), .im (pv K z693.1), .im (pv K z693.2), .im (pv K z694.a), .im (pv K z694.b), .im (pv K z694.c), .im (pv K z694.d), .im (pv K z694.e), .im (pv K z717.1), .im (pv K z717.2.1), .im (pv K number727), .im (pv K z728.1), .im (pv K z728.2.1), .im (pv K view776), .im (pv K t775), .im (pv K z802.1), .im (pv K a754), .no, .no, .im (pv K due777), .im (pv K far_word778), .im (pv K z802.2.1), .no, .no, .no, .no]) (.cons (.rfl _) (.cons (.rfl _) (.cons (.rfl _) (.cons (.rfl _) (.cons (.rfl _) (.cons (.rfl _) (.cons (.rfl _) (.cons (.rfl _) (.cons (.rfl _) (.cons (.rfl _) (.cons (.rfl _) (.cons (.rfl _) (.cons (.rfl _) (.cons (.rfl _) (.cons (.rfl _) (.cons (.rfl _) (.cons (.rfl _) (.cons (.rfl _) (.cons (.rfl _) (.cons (.rfl _) (.cons (.rfl _) (.cons (.rfl _) (.cons (.rfl _) (.cons (.fr fr_ol) (.cons (.rfl _) (.cons (.rfl _) (.cons (.rfl _) (.cons (.rfl _) .nil)))))))))))))))))))))))))))) rfl (ep_cb (ap_cons (ep_var rfl) ap_nil) c_lenL))) am_nil)) (fun _ _ => rfl) fun _ _ => rfl)) (em_of_eo (eo_callS (f := fun (z816 : Ref × Int × Unit) => (z816.1, z816.2.1)) (am_cons (em_pure fun _ => (ep_var rfl)) (am_cons (em_pure fun _ => (ep_bor (Γ0 := [.im (pv K box), .im (pv K z689.1), .im (pv K z689.2), .im (pv K z693.1), .im (pv K z693.2), .im (pv K z694.a), .im (pv K z694.b), .im (pv K z694.c), .im (pv K z694.d), .im (pv K z694.e), .im (pv K z717.1), .im (pv K z717.2.1), .im (pv K number727), .im (pv K z728.1), .im (pv K z728.2.1), .im (pv K view776), .im (pv K t775), .im (pv K z802.1), .im (pv K a754), .no, .no, .im (pv K due777), .im (pv K far_word778), .im (pv K z802.2.1), .no, .no, .no, .no]) (.cons (.rfl _) (.cons (.rfl _) (.cons (.rfl _) (.cons (.rfl _) (.cons (.rfl _) (.cons (.rfl _) (.cons (.rfl _) (.cons (.rfl _) (.cons (.rfl _) (.cons (.rfl _) (.cons (.rfl _) (.cons (.rfl _) (.cons (.rfl _) (.cons (.rfl _) (.cons (.rfl _) (.cons (.rfl _) (.cons (.rfl _) (.cons (.rfl _) (.cons (.rfl _) (.cons (.rfl _) (.cons (.rfl _) (.cons (.rfl _) (.cons (.rfl _) (.cons (.fr fr_ol) (.cons (.rfl _) (.cons (.rfl _) (.cons (.rfl _) (.cons (.rfl _) .nil)))))))))))))))))))))))))))) rfl (ep_op (ep_cb (ap_cons (ep_var rfl) ap_nil) c_lenL) (ep_int (K := K)) o_add))) am_nil)) (fun _ _ => rfl) fun _ _ => rfl))) (fun _ => rfl) fun _ _ => rfl) fun done818 => (rc_seqP (rp_take (Γ := fun (s : (Sto K)) => [.im (pv K box), .im (pv K z689.1), .im (pv K z689.2), .im (pv K z693.1), .im (pv K z693.2), .im (pv K z694.a), .im (pv K z694.b), .im (pv K z694.c), .im (pv K z694.d), .im (pv K z694.e), .im (pv K z717.1), .im (pv K z717.2.1), .im (pv K number727), .im (pv K z728.1), .im (pv K z728.2.1), .im (pv K view776), .im (pv K t775), .im (pv K z802.1), .im (pv K a754), .no, .no, .im (pv K due777), .im (pv K far_word778), .ow (ol K z802.2.1), .im (pv K done818), .no, .no, .no]) (i := 25) (Γ' := fun held819 (s : (Sto K)) => [.im (pv K box), .im (pv K z689.1), .im (pv K z689.2), .im (pv K z693.1), .im (pv K z693.2), .im (pv K z694.a), .im (pv K z694.b), .im (pv K z694.c), .im (pv K z694.d), .im (pv K z694.e), .im (pv K z717.1), .im (pv K z717.2.1), .im (pv K number727), .im (pv K z728.1), .im (pv K z728.2.1), .im (pv K view776), .im (pv K t775), .im (pv K z802.1), .im (pv K a754), .no, .no, .im (pv K due777), .im (pv K far_word778), .ow (ol K z802.2.1), .im (pv K done818), .ow (od held819), .no, .no]) (eo_dict (em_pure fun _ => (ep_var rfl))) (fun _ => rfl) (fun _ => Nat.le_of_ble_eq_true rfl) fun _ _ => rfl) fun held819 => (rc_pre (fun s => (.cons (.rfl _) (.cons (.rfl _) (.cons (.rfl _) (.cons (.rfl _) (.cons (.rfl _) (.cons (.rfl _) (.cons (.rfl _) (.cons (.rfl _) (.cons (.rfl _) (.cons (.rfl _) (.cons (.rfl _) (.cons (.rfl _) (.cons (.rfl _) (.cons (.rfl _) (.cons (.rfl _) (.cons (.rfl _) (.cons (.rfl _) (.cons (.rfl _) (.cons (.rfl _) (.cons (.rfl _) (.cons (.rfl _) (.cons (.rfl _) (.cons (.rfl _) (.cons (.fr fr_ol) (.cons (.rfl _) (.cons (.rfl _) (.cons (.rfl _) (.cons (.rfl _) .nil))))))))))))))))))))))))))))) (rc_seqP (rp_for (ΓL := fun (t820 : (List (Int × Int))) (s : (Sto K)) => [.im (pv K box), .im (pv K z689.1), .im (pv K z689.2), .im (pv K z693.1), .im (pv K z693.2), .im (pv K z694.a), .im (pv K z694.b), .im (pv K z694.c), .im (pv K z694.d), .im (pv K z694.e), .im (pv K z717.1), .im (pv K z717.2.1), .im (pv K number727), .im (pv K z728.1), .im (pv K z728.2.1), .im (pv K view776), .im (pv K t775), .im (pv K z802.1), .im (pv K a754), .no, .no, .im (pv K due777), .im (pv K far_word778), .im (pv K z802.2.1), .im (pv K done818), .ow (od t820), .no, .no]) (Γx := fun (a821 : (Int × Int)) (t820 : (List (Int × Int))) (s : (Sto K)) => [.im (pv K box), .im (pv K z689.1), .im (pv K z689.2), .im (pv K z693.1), .im (pv K z693.2), .im (pv K z694.a), .im (pv K z694.b), .im (pv K z694.c), .im (pv K z694.d), .im (pv K z694.e), .im (pv K z717.1), .im (pv K z717.2.1), .im (pv K number727), .im (pv K z728.1), .im (pv K z728.2.1), .im (pv K view776), .im (pv K t775), .im (pv K z802.1), .im (pv K a754), .no, .no, .im (pv K due777), .im (pv K far_word778), .im (pv K z802.2.1), .im (pv K done818), .ow (od t820), .im (pv K a821.1), .im (pv K a821.2)]) (im_list fun _ => (ep_sl (ep_var rfl) po_no (po_i (ep_var rfl)))) (fun s => (.cons (.rfl _) (.cons (.rfl _) (.cons (.rfl _) (.cons (.rfl _) (.cons (.rfl _) (.cons (.rfl _) (.cons (.rfl _) (.cons (.rfl _) (.cons (.rfl _) (.cons (.rfl _) (.cons (.rfl _) (.cons (.rfl _) (.cons (.rfl _) (.cons (.rfl _) (.cons (.rfl _) (.cons (.rfl _) (.cons (.rfl _) (.cons (.rfl _) (.cons (.rfl _) (.cons (.rfl _) (.cons (.rfl _) (.cons (.rfl _) (.cons (.rfl _) (.cons (.rfl _) (.cons (.rfl _) (.cons (.rfl _) (.cons (.rfl _) (.cons (.rfl _) .nil))))))))))))))))))))))))))))) (fun a821 t820 s => (gt_2 (gt_name (Γ := [.im (pv K box), .im (pv K z689.1), .im (pv K z689.2), .im (pv K z693.1), .im (pv K z693.2), .im (pv K z694.a), .im (pv K z694.b), .im (pv K z694.c), .im (pv K z694.d), .im (pv K z694.e), .im (pv K z717.1), .im (pv K z717.2.1), .im (pv K number727), .im (pv K z728.1), .im (pv K z728.2.1), .im (pv K view776), .im (pv K t775), .im (pv K z802.1), .im (pv K a754), .no, .no, .im (pv K due777), .im (pv K far_word778), .im (pv K z802.2.1), .im (pv K done818), .ow (od t820), .no, .no]) (i := 26) (Γ' := [.im (pv K box), .im (pv K z689.1), .im (pv K z689.2), .im (pv K z693.1), .im (pv K z693.2), .im (pv K z694.a), .im (pv K z694.b), .im (pv K z694.c), .im (pv K z694.d), .im (pv K z694.e), .im (pv K z717.1), .im (pv K z717.2.1), .im (pv K number727), .im (pv K z728.1), .im (pv K z728.2.1), .im (pv K view776), .im (pv K t775), .im (pv K z802.1), .im (pv K a754), .no, .no, .im (pv K due777), .im (pv K far_word778), .im (pv K z802.2.1), .im (pv K done818), .ow (od t820), .im (pv K a821.1), .no]) rfl rfl) (gt_name (Γ := [.im (pv K box), .im (pv K z689.1), .im (pv K z689.2), .im (pv K z693.1), .im (pv K z693.2), .im (pv K z694.a), .im (pv K z694.b), .im (pv K z694.c), .im (pv K z694.d), .im (pv K z694.e), .im (pv K z717.1), .im (pv K z717.2.1), .im (pv K number727), .im (pv K z728.1), .im (pv K z728.2.1), .im (pv K view776), .im (pv K t775), .im (pv K z802.1), .im (pv K a754), .no, .no, .im (pv K due777), .im (pv K far_word778), .im (pv K z802.2.1), .im (pv K done818), .ow (od t820), .im (pv K a821.1), .no]) (i := 27) (Γ' := [.im (pv K box), .im (pv K z689.1), .im (pv K z689.2), .im (pv K z693.1), .im (pv K z693.2), .im (pv K z694.a), .im (pv K z694.b), .im (pv K z694.c), .im (pv K z694.d), .im (pv K z694.e), .im (pv K z717.1), .im (pv K z717.2.1), .im (pv K number727), .im (pv K z728.1), .im (pv K z728.2.1), .im (pv K view776), .im (pv K t775), .im (pv K z802.1), .im (pv K a754), .no, .no, .im (pv K due777), .im (pv K far_word778), .im (pv K z802.2.1), .im (pv K done818), .ow (od t820), .im (pv K a821.1), .im (pv K a821.2)]) rfl rfl))) fun a821 t820 => (rp_post (f := fun held822 => held822) (rp_dset (Γ' := fun held822 (s : (Sto K)) => [.im (pv K box), .im (pv K z689.1), .im (pv K z689.2), .im (pv K z693.1), .im (pv K z693.2), .im (pv K z694.a), .im (pv K z694.b), .im (pv K z694.c), .im (pv K z694.d), .im (pv K z694.e), .im (pv K z717.1), .im (pv K z717.2.1), .im (pv K number727), .im (pv K z728.1), .im (pv K z728.2.1), .im (pv K view776), .im (pv K t775), .im (pv K z802.1), .im (pv K a754), .no, .no, .im (pv K due777), .im (pv K far_word778), .im (pv K z802.2.1), .im (pv K done818), .ow (od held822), .im (pv K a821.1), .im (pv K a821.2)]) (fun _ => rfl) (em_pure fun _ => (ep_var rfl)) (em_pure fun _ => (ep_var rfl)) fun _ _ => rfl) fun held822 s => (.cons (.rfl _) (.cons (.rfl _) (.cons (.rfl _) (.cons (.rfl _) (.cons (.rfl _) (.cons (.rfl _) (.cons (.rfl _) (.cons (.rfl _) (.cons (.rfl _) (.cons (.rfl _) (.cons (.rfl _) (.cons (.rfl _) (.cons (.rfl _) (.cons (.rfl _) (.cons (.rfl _) (.cons (.rfl _) (.cons (.rfl _) (.cons (.rfl _) (.cons (.rfl _) (.cons (.rfl _) (.cons (.rfl _) (.cons (.rfl _) (.cons (.rfl _) (.cons (.rfl _) (.cons (.rfl _) (.cons (.rfl _) (.cons (.no _) (.cons (.no _) .nil)))))))))))))))))))))))))))))) fun t825 => (rc_seqP (rp_if (Γ' := fun t826 (s : (Sto K)) => [.im (pv K box), .im (pv K z689.1), .im (pv K z689.2), .im (pv K z693.1), .im (pv K z693.2), .im (pv K z694.a), .im (pv K z694.b), .im (pv K z694.c), .im (pv K z694.d), .im (pv K z694.e), .im (pv K z717.1), .im (pv K z717.2.1), .im (pv K number727), .im (pv K z728.1), .im (pv K z728.2.1), .im (pv K view776), .im (pv K t775), .im (pv K z802.1), .im (pv K a754), .no, .no, .im (pv K due777), .im (pv K far_word778), .im (pv K z802.2.1), .im (pv K done818), .ow (od t826), .no, .no]) (tm_pure fun _ => (tp_test (ep_op (ep_var rfl) (ep_cb (ap_cons (ep_var rfl) ap_nil) c_lenL) o_lt))) (rp_post (f := fun held835 => held835) (rp_dset (Γ' := fun held835 (s : (Sto K)) => [.im (pv K box), .im (pv K z689.1), .im (pv K z689.2), .im (pv K z693.1), .im (pv K z693.2), .im (pv K z694.a), .im (pv K z694.b), .im (pv K z694.c), .im (pv K z694.d), .im (pv K z694.e), .im (pv K z717.1), .im (pv K z717.2.1), .im (pv K number727), .im (pv K z728.1), .im (pv K z728.2.1), .im (pv K view776), .im (pv K t775), .im (pv K z802.1), .im (pv K a754), .no, .no, .im (pv K due777), .im (pv K far_word778), .im (pv K z802.2.1), .im (pv K done818), .ow (od held835), .no, .no]) (fun _ => rfl) (em_of_eo (eo_callS (f := fun (z831 : Ref × Int × Unit) => (z831.1, z831.2.1)) (am_cons (em_pure fun _ => (ep_var rfl)) (am_cons (em_pure fun _ => (ep_var rfl)) am_nil)) (fun _ _ => rfl) fun _ _ => rfl)) (em_opr (g := fun (u : (Int × Int)) (_ : Int) => u.1) (em_ixLp (fun _ => (ep_var rfl)) fun _ => (ep_var rfl)) (fun _ => (ep_int (K := K))) fun _ => pr2_0) fun _ _ => rfl) fun held835 s => (.cons (.rfl _) (.cons (.rfl _) (.cons (.rfl _) (.cons (.rfl _) (.cons (.rfl _) (.cons (.rfl _) (.cons (.rfl _) (.cons (.rfl _) (.cons (.rfl _) (.cons (.rfl _) (.cons (.rfl _) (.cons (.rfl _) (.cons (.rfl _) (.cons (.rfl _) (.cons (.rfl _) (.cons (.rfl _) (.cons (.rfl _) (.cons (.rfl _) (.cons (.rfl _) (.cons (.rfl _) (.cons (.rfl _) (.cons (.rfl _) (.cons (.rfl _) (.cons (.rfl _) (.cons (.rfl _) (.cons (.rfl _) (.cons (.rfl _) (.cons (.rfl _) .nil))))))))))))))))))))))))))))) (rp_next (x := t825) fun s => (.cons (.rfl _) (.cons (.rfl _) (.cons (.rfl _) (.cons (.rfl _) (.cons (.rfl _) (.cons (.rfl _) (.cons (.rfl _) (.cons (.rfl _) (.cons (.rfl _) (.cons (.rfl _) (.cons (.rfl _) (.cons (.rfl _) (.cons (.rfl _) (.cons (.rfl _) (.cons (.rfl _) (.cons (.rfl _) (.cons (.rfl _) (.cons (.rfl _) (.cons (.rfl _) (.cons (.rfl _) (.cons (.rfl _) (.cons (.rfl _) (.cons (.rfl _) (.cons (.rfl _) (.cons (.rfl _) (.cons (.rfl _) (.cons (.rfl _) (.cons (.rfl _) .nil)))))))))))))))))))))))))))))) fun t826 => (rc_of_p (rp_post (f := fun view838 => (view838, t775, z802.1)) (rp_asg (Γ := fun (s : (Sto K)) => [.im (pv K box), .im (pv K z689.1), .im (pv K z689.2), .im (pv K z693.1), .im (pv K z693.2), .im (pv K z694.a), .im (pv K z694.b), .im (pv K z694.c), .im (pv K z694.d), .im (pv K z694.e), .im (pv K z717.1), .im (pv K z717.2.1), .im (pv K number727), .im (pv K z728.1), .im (pv K z728.2.1), .im (pv K view776), .im (pv K t775), .im (pv K z802.1), .im (pv K a754), .no, .no, .im (pv K due777), .im (pv K far_word778), .im (pv K z802.2.1), .im (pv K done818), .ow (od t826), .no, .no]) (i := 15) (Γ' := fun view838 (s : (Sto K)) => [.im (pv K box), .im (pv K z689.1), .im (pv K z689.2), .im (pv K z693.1), .im (pv K z693.2), .im (pv K z694.a), .im (pv K z694.b), .im (pv K z694.c), .im (pv K z694.d), .im (pv K z694.e), .im (pv K z717.1), .im (pv K z717.2.1), .im (pv K number727), .im (pv K z728.1), .im (pv K z728.2.1), .im (pv K view838), .im (pv K t775), .im (pv K z802.1), .im (pv K a754), .no, .no, .im (pv K due777), .im (pv K far_word778), .im (pv K z802.2.1), .im (pv K done818), .ow (od t826), .no, .no]) (em_sortI (fun _ => rfl)) (fun _ => rfl) fun _ _ => rfl) fun view838 s => (.cons (.rfl _) (.cons (.rfl _) (.cons (.rfl _) (.cons (.rfl _) (.cons (.rfl _) (.cons (.rfl _) (.cons (.rfl _) (.cons (.rfl _) (.cons (.rfl _) (.cons (.rfl _) (.cons (.rfl _) (.cons (.rfl _) (.cons (.rfl _) (.cons (.rfl _) (.cons (.rfl _) (.cons (.rfl _) (.cons (.rfl _) (.cons (.rfl _) (.cons (.no _) (.cons (.rfl _) (.cons (.rfl _) (.cons (.no _) (.cons (.no _) (.cons (.no _) (.cons (.no _) (.cons (.drop _) (.cons (.rfl _) (.cons (.rfl _) .nil)))))))))))))))))))))))))))))))))))))))))) fun t839 => (rt_seq (rp_asg (Γ := fun (s : (Sto K)) => [.im (pv K box), .im (pv K z689.1), .im (pv K z689.2), .im (pv K z693.1), .im (pv K z693.2), .im (pv K z694.a), .im (pv K z694.b), .im (pv K z694.c), .im (pv K z694.d), .im (pv K z694.e), .im (pv K z717.1), .im (pv K z717.2.1), .im (pv K number727), .im (pv K z728.1), .im (pv K z728.2.1), .im (pv K t839.1), .im (pv K t839.2.1), .im (pv K t839.2.2), .no, .no, .no, .no, .no, .no, .no, .no, .no, .no]) (i := 21) (Γ' := fun due840 (s : (Sto K)) => [.im (pv K box), .im (pv K z689.1), .im (pv K z689.2), .im (pv K z693.1), .im (pv K z693.2), .im (pv K z694.a), .im (pv K z694.b), .im (pv K z694.c), .im (pv K z694.d), .im (pv K z694.e), .im (pv K z717.1), .im (pv K z717.2.1), .im (pv K number727), .im (pv K z728.1), .im (pv K z728.2.1), .im (pv K t839.1), .im (pv K t839.2.1), .im (pv K t839.2.2), .no, .no, .no, .im (pv K due840), .no, .no, .no, .no, .no, .no]) (em_of_eo (eo_call0 (i := (t839.1, z689.2.c)) (ps := [pv K t839.1, pv K z689.2.c]) (fun _ => (ap_cons (ep_var rfl) (ap_cons (ep_op (ep_var rfl) (ep_int (K := K)) pr5_2) ap_nil))) rfl)) (fun _ => rfl) fun _ _ => rfl) fun due840 => (rt_seq (rp_for (ΓL := fun (t841 : (List (Int × Int))) (s : (Sto K)) => [.im (pv K box), .im (pv K z689.1), .im (pv K z689.2), .im (pv K z693.1), .im (pv K z693.2), .im (pv K z694.a), .im (pv K z694.b), .im (pv K z694.c), .im (pv K z694.d), .im (pv K z694.e), .im (pv K z717.1), .im (pv K z717.2.1), .im (pv K number727), .im (pv K z728.1), .im (pv K z728.2.1), .im (pv K t841), .im (pv K t839.2.1), .im (pv K t839.2.2), .no, .no, .no, .im (pv K due840), .no, .no, .no, .no, .no, .no]) (Γx := fun (a842 : (Int × Int)) (t841 : (List (Int × Int))) (s : (Sto K)) => [.im (pv K box), .im (pv K z689.1), .im (pv K z689.2), .im (pv K z693.1), .im (pv K z693.2), .im (pv K z694.a), .im (pv K z694.b), .im (pv K z694.c), .im (pv K z694.d), .im (pv K z694.e), .im (pv K z717.1), .im (pv K z717.2.1), .im (pv K number727), .im (pv K z728.1), .im (pv K z728.2.1), .im (pv K t841), .im (pv K t839.2.1), .im (pv K t839.2.2), .no, .no, .no, .im (pv K due840), .no, .no, .no, .no, .im (pv K a842.1), .im (pv K a842.2)]) (im_listM (em_ownL (eo_call0 (i := (t839.1, z728.1, due840)) (ps := [pv K t839.1, pv K z728.1, pv K due840]) (fun _ => (ap_cons (ep_var rfl) (ap_cons (ep_var rfl) (ap_cons (ep_var rfl) ap_nil)))) rfl))) (fun s => (.cons (.rfl _) (.cons (.rfl _) (.cons (.rfl _) (.cons (.rfl _) (.cons (.rfl _) (.cons (.rfl _) (.cons (.rfl _) (.cons (.rfl _) (.cons (.rfl _) (.cons (.rfl _) (.cons (.rfl _) (.cons (.rfl _) (.cons (.rfl _) (.cons (.rfl _) (.cons (.rfl _) (.cons (.rfl _) (.cons (.rfl _) (.cons (.rfl _) (.cons (.rfl _) (.cons (.rfl _) (.cons (.rfl _) (.cons (.rfl _) (.cons (.rfl _) (.cons (.rfl _) (.cons (.rfl _) (.cons (.rfl _) (.cons (.rfl _) (.cons (.rfl _) .nil))))))))))))))))))))))))))))) (fun a842 t841 s => (gt_2 (gt_name (Γ := [.im (pv K box), .im (pv K z689.1), .im (pv K z689.2), .im (pv K z693.1), .im (pv K z693.2), .im (pv K z694.a), .im (pv K z694.b), .im (pv K z694.c), .im (pv K z694.d), .im (pv K z694.e), .im (pv K z717.1), .im (pv K z717.2.1), .im (pv K number727), .im (pv K z728.1), .im (pv K z728.2.1), .im (pv K t841), .im (pv K t839.2.1), .im (pv K t839.2.2), .no, .no, .no, .im (pv K due840), .no, .no, .no, .no, .no, .no]) (i := 26) (Γ' := [.im (pv K box), .im (pv K z689.1), .im (pv K z689.2), .im (pv K z693.1), .im (pv K z693.2), .im (pv K z694.a), .im (pv K z694.b), .im (pv K z694.c), .im (pv K z694.d), .im (pv K z694.e), .im (pv K z717.1), .im (pv K z717.2.1), .im (pv K number727), .im (pv K z728.1), .im (pv K z728.2.1), .im (pv K t841), .im (pv K t839.2.1), .im (pv K t839.2.2), .no, .no, .no, .im (pv K due840), .no, .no, .no, .no, .im (pv K a842.1), .no]) rfl rfl) (gt_name (Γ := [.im (pv K box), .im (pv K z689.1), .im (pv K z689.2), .im (pv K z693.1), .im (pv K z693.2), .im (pv K z694.a), .im (pv K z694.b), .im (pv K z694.c), .im (pv K z694.d), .im (pv K z694.e), .im (pv K z717.1), .im (pv K z717.2.1), .im (pv K number727), .im (pv K z728.1), .im (pv K z728.2.1), .im (pv K t841), .im (pv K t839.2.1), .im (pv K t839.2.2), .no, .no, .no, .im (pv K due840), .no, .no, .no, .no, .im (pv K a842.1), .no]) (i := 27) (Γ' := [.im (pv K box), .im (pv K z689.1), .im (pv K z689.2), .im (pv K z693.1), .im (pv K z693.2), .im (pv K z694.a), .im (pv K z694.b), .im (pv K z694.c), .im (pv K z694.d), .im (pv K z694.e), .im (pv K z717.1), .im (pv K z717.2.1), .im (pv K number727), .im (pv K z728.1), .im (pv K z728.2.1), .im (pv K t841), .im (pv K t839.2.1), .im (pv K t839.2.2), .no, .no, .no, .im (pv K due840), .no, .no, .no, .no, .im (pv K a842.1), .im (pv K a842.2)]) rfl rfl))) fun a842 t841 => (rp_seq (rp_take (Γ := fun (s : (Sto K)) => [.im (pv K box), .im (pv K z689.1), .im (pv K z689.2), .im (pv K z693.1), .im (pv K z693.2), .im (pv K z694.a), .im (pv K z694.b), .im (pv K z694.c), .im (pv K z694.d), .im (pv K z694.e), .im (pv K z717.1), .im (pv K z717.2.1), .im (pv K number727), .im (pv K z728.1), .im (pv K z728.2.1), .im (pv K t841), .im (pv K t839.2.1), .im (pv K t839.2.2), .no, .no, .no, .im (pv K due840), .no, .no, .no, .no, .im (pv K a842.1), .im (pv K a842.2)]) (i := 25) (Γ' := fun held843 (s : (Sto K)) => [.im (pv K box), .im (pv K z689.1), .im (pv K z689.2), .im (pv K z693.1), .im (pv K z693.2), .im (pv K z694.a), .im (pv K z694.b), .im (pv K z694.c), .im (pv K z694.d), .im (pv K z694.e), .im (pv K z717.1), .im (pv K z717.2.1), .im (pv K number727), .im (pv K z728.1), .im (pv K z728.2.1), .im (pv K t841), .im (pv K t839.2.1), .im (pv K t839.2.2), .no, .no, .no, .im (pv K due840), .no, .no, .no, .ow (od held843), .im (pv K a842.1), .im (pv K a842.2)]) (eo_dict (em_pure fun _ => (ep_var rfl))) (fun _ => rfl) (fun _ => Nat.le_of_ble_eq_true rfl) fun _ _ => rfl) fun held843 => (rp_seq (rp_dset (Γ' := fun held844 (s : (Sto K)) => [.im (pv K box), .im (pv K z689.1), .im (pv K z689.2), .im (pv K z693.1), .im (pv K z693.2), .im (pv K z694.a), .im (pv K z694.b), .im (pv K z694.c), .im (pv K z694.d), .im (pv K z694.e), .im (pv K z717.1), .im (pv K z717.2.1), .im (pv K number727), .im (pv K z728.1), .im (pv K z728.2.1), .im (pv K t841), .im (pv K t839.2.1), .im (pv K t839.2.2), .no, .no, .no, .im (pv K due840), .no, .no, .no, .ow (od held844), .im (pv K a842.1), .im (pv K a842.2)]) (fun _ => rfl) (em_pure fun _ => (ep_var rfl)) (em_pure fun _ => (ep_var rfl)) fun _ _ => rfl) fun held844 => (rp_post (f := fun view847 => view847) (rp_asg (Γ := fun (s : (Sto K)) => [.im (pv K box), .im (pv K z689.1), .im (pv K z689.2), .im (pv K z693.1), .im (pv K z693.2), .im (pv K z694.a), .im (pv K z694.b), .im (pv K z694.c), .im (pv K z694.d), .im (pv K z694.e), .im (pv K z717.1), .im (pv K z717.2.1), .im (pv K number727), .im (pv K z728.1), .im (pv K z728.2.1), .im (pv K t841), .im (pv K t839.2.1), .im (pv K t839.2.2), .no, .no, .no, .im (pv K due840), .no, .no, .no, .ow (od held844), .im (pv K a842.1), .im (pv K a842.2)]) (i := 15) (Γ' := fun view847 (s : (Sto K)) => [.im (pv K box), .im (pv K z689.1), .im (pv K z689.2), .im (pv K z693.1), .im (pv K z693.2), .im (pv K z694.a), .im (pv K z694.b), .im (pv K z694.c), .im (pv K z694.d), .im (pv K z694.e), .im (pv K z717.1), .im (pv K z717.2.1), .im (pv K number727), .im (pv K z728.1), .im (pv K z728.2.1), .im (pv K view847), .im (pv K t839.2.1), .im (pv K t839.2.2), .no, .no, .no, .im (pv K due840), .no, .no, .no, .ow (od held844), .im (pv K a842.1), .im (pv K a842.2)]) (em_sortI (fun _ => rfl)) (fun _ => rfl) fun _ _ => rfl) fun view847 s => (.cons (.rfl _) (.cons (.rfl _) (.cons (.rfl _) (.cons (.rfl _) (.cons (.rfl _) (.cons (.rfl _) (.cons (.rfl _) (.cons (.rfl _) (.cons (.rfl _) (.cons (.rfl _) (.cons (.rfl _) (.cons (.rfl _) (.cons (.rfl _) (.cons (.rfl _) (.cons (.rfl _) (.cons (.rfl _) (.cons (.rfl _) (.cons (.rfl _) (.cons (.rfl _) (.cons (.rfl _) (.cons (.rfl _) (.cons (.rfl _) (.cons (.rfl _) (.cons (.rfl _) (.cons (.rfl _) (.cons (.drop _) (.cons (.no _) (.cons (.no _) .nil)))))))))))))))))))))))))))))))) fun t848 => (rt_ifr (tm_test (em_opl (g := fun (u : (List (Int × Int))) (v : (List (Int × Int))) => (!decide (u = v))) (fun _ => (ep_var rfl)) (em_lc (Γx := fun (a849 : (Int × Int)) (s : (Sto K)) => [.im (pv K box), .im (pv K z689.1), .im (pv K z689.2), .im (pv K z693.1), .im (pv K z693.2), .im (pv K z694.a), .im (pv K z694.b), .im (pv K z694.c), .im (pv K z694.d), .im (pv K z694.e), .im (pv K z717.1), .im (pv K z717.2.1), .im (pv K number727), .im (pv K z728.1), .im (pv K z728.2.1), .im (pv K t848), .im (pv K t839.2.1), .im (pv K t839.2.2), .no, .no, .no, .im (pv K due840), .no, .no, .no, .no, .im (pv K a849.1), .im (pv K a849.2)]) (js := [26, 27]) (im_list fun _ => (ep_var rfl)) (fun _ => rfl) (fun a849 s => (gt_2 (gt_name (Γ := [.im (pv K box), .im (pv K z689.1), .im (pv K z689.2), .im (pv K z693.1), .im (pv K z693.2), .im (pv K z694.a), .im (pv K z694.b), .im (pv K z694.c), .im (pv K z694.d), .im (pv K z694.e), .im (pv K z717.1), .im (pv K z717.2.1), .im (pv K number727), .im (pv K z728.1), .im (pv K z728.2.1), .im (pv K t848), .im (pv K t839.2.1), .im (pv K t839.2.2), .no, .no, .no, .im (pv K due840), .no, .no, .no, .no, .no, .no]) (i := 26) (Γ' := [.im (pv K box), .im (pv K z689.1), .im (pv K z689.2), .im (pv K z693.1), .im (pv K z693.2), .im (pv K z694.a), .im (pv K z694.b), .im (pv K z694.c), .im (pv K z694.d), .im (pv K z694.e), .im (pv K z717.1), .im (pv K z717.2.1), .im (pv K number727), .im (pv K z728.1), .im (pv K z728.2.1), .im (pv K t848), .im (pv K t839.2.1), .im (pv K t839.2.2), .no, .no, .no, .im (pv K due840), .no, .no, .no, .no, .im (pv K a849.1), .no]) rfl rfl) (gt_name (Γ := [.im (pv K box), .im (pv K z689.1), .im (pv K z689.2), .im (pv K z693.1), .im (pv K z693.2), .im (pv K z694.a), .im (pv K z694.b), .im (pv K z694.c), .im (pv K z694.d), .im (pv K z694.e), .im (pv K z717.1), .im (pv K z717.2.1), .im (pv K number727), .im (pv K z728.1), .im (pv K z728.2.1), .im (pv K t848), .im (pv K t839.2.1), .im (pv K t839.2.2), .no, .no, .no, .im (pv K due840), .no, .no, .no, .no, .im (pv K a849.1), .no]) (i := 27) (Γ' := [.im (pv K box), .im (pv K z689.1), .im (pv K z689.2), .im (pv K z693.1), .im (pv K z693.2), .im (pv K z694.a), .im (pv K z694.b), .im (pv K z694.c), .im (pv K z694.d), .im (pv K z694.e), .im (pv K z717.1), .im (pv K z717.2.1), .im (pv K number727), .im (pv K z728.1), .im (pv K z728.2.1), .im (pv K t848), .im (pv K t839.2.1), .im (pv K t839.2.2), .no, .no, .no, .im (pv K due840), .no, .no, .no, .no, .im (pv K a849.1), .im (pv K a849.2)]) rfl rfl))) rfl (fun a849 => tm_yes) (fun a849 => (em_tup (f := fun (z857 : Int × Int × Unit) => (z857.1, z857.2.1)) (am_cons (em_pure fun _ => (ep_var rfl)) (am_cons (em_if (tm_pure fun _ => (tp_B (ep_var rfl))) (em_ixTp (fun _ => (ep_var rfl)) fun _ => (ep_var rfl)) (em_pure fun _ => (ep_int (K := K)))) am_nil)) fun z857 => tup2)) fun a849 s => (.cons (.rfl _) (.cons (.rfl _) (.cons (.rfl _) (.cons (.rfl _) (.cons (.rfl _) (.cons (.rfl _) (.cons (.rfl _) (.cons (.rfl _) (.cons (.rfl _) (.cons (.rfl _) (.cons (.rfl _) (.cons (.rfl _) (.cons (.rfl _) (.cons (.rfl _) (.cons (.rfl _) (.cons (.rfl _) (.cons (.rfl _) (.cons (.rfl _) (.cons (.rfl _) (.cons (.rfl _) (.cons (.rfl _) (.cons (.rfl _) (.cons (.rfl _) (.cons (.rfl _) (.cons (.rfl _) (.cons (.rfl _) (.cons (.no _) (.cons (.no _) .nil))))))))))))))))))))))))))))) fun _ => (o_neDt (Nat.le_of_ble_eq_true rfl)))) (rt_ret (em_pure fun _ => (ep_bl (K := K))) fun s => (.cons (.no _) (.cons (.no _) (.cons (.no _) (.cons (.no _) (.cons (.no _) (.cons (.no _) (.cons (.no _) (.cons (.no _) (.cons (.no _) (.cons (.no _) (.cons (.no _) (.cons (.no _) (.cons (.no _) (.cons (.no _) (.cons (.no _) (.cons (.no _) (.cons (.no _) (.cons (.no _) (.cons (.rfl _) (.cons (.rfl _) (.cons (.rfl _) (.cons (.no _) (.cons (.rfl _) (.cons (.rfl _) (.cons (.rfl _) (.cons (.rfl _) (.cons (.rfl _) (.cons (.rfl _) .nil))))))))))))))))))))))))))))) (rt_ret (em_andV (em_of_eo (eo_callS (f := fun (z872 : Ref × C_Array × (List (Int × Int)) × (List Int) × Int × Bool × Unit) => (z872.1, z872.2.1, z872.2.2.1, z872.2.2.2.1, z872.2.2.2.2.1, z872.2.2.2.2.2.1)) (am_cons (em_pure fun _ => (ep_var rfl)) (am_cons (em_pure fun _ => (ep_var rfl)) (am_cons (em_pure fun _ => (ep_var rfl)) (am_cons (em_pure fun _ => (ep_var rfl)) (am_cons (em_pure fun _ => (ep_op (ep_var rfl) (ep_int (K := K)) pr5_2)) (am_cons (em_pure fun _ => (ep_var rfl)) am_nil)))))) (fun _ _ => rfl) fun _ _ => rfl)) (em_pure fun _ => (ep_orV (ep_op (ep_var rfl) (ep_bl (K := K)) o_isB) fun _ => (ep_op (ep_var rfl) (ep_bl (K := K)) o_notB)))) fun s => (.cons (.no _) (.cons (.no _) (.cons (.no _) (.cons (.no _) (.cons (.no _) (.cons (.no _) (.cons (.no _) (.cons (.no _) (.cons (.no _) (.cons (.no _) (.cons (.no _) (.cons (.no _) (.cons (.no _) (.cons (.no _) (.cons (.no _) (.cons (.no _) (.cons (.no _) (.cons (.no _) (.cons (.rfl _) (.cons (.rfl _) (.cons (.rfl _) (.cons (.no _) (.cons (.rfl _) (.cons (.rfl _) (.cons (.rfl _) (.cons (.rfl _) (.cons (.rfl _) (.cons (.rfl _) .nil)))))))))))))))))))))))))))))))))))))))))))) h⟩
theorem ok__law_right {f : Addr} {fd : FuncData} (F : FnP K "_law_right" (top 83) f fd) (hg : mg "_law_right" = some (.ref f)) (b_dict : mg "dict" = none) (b_len : mg "len" = none) (b_list : mg "list" = none) (b_range : mg "range" = none) (b_sorted : mg "sorted" = none) (b_tuple : mg "tuple" = none) (C__law_drawn : Cal P w K mg base 3 "_law_drawn" ["box"] (sp__law_drawn K)) (C__law_take : Cal P w K mg base 1 "_law_take" ["box", "many"] (sp__law_take K)) (C__law_word : Cal P w K mg base 2 "_law_word" ["sizes", "number"] (sp__law_word K)) (C__law_lot : Cal P w K mg base 2 "_law_lot" ["records", "few", "number"] (sp__law_lot K)) (C_head_word : Cal P w K mg base 9 "head_word" ["array", "lot"] (sp_head_word K)) (C_lot_number : Cal P w K mg base 6 "lot_number" ["array", "lot"] (sp_lot_number K)) (C__law_left_view : Cal P w K mg base 2 "_law_left_view" ["box", "word", "contents"] (sp__law_left_view K)) (C__law_without : Cal P w K mg base 1 "_law_without" ["view", "disks", "gone"] (sp__law_without K)) (C__law_asked : Cal P w K mg base 12 "_law_asked" ["array", "view", "word", "lot", "symbols", "before"] (sp__law_asked K)) (C_told : Cal P w K mg base 10 "told" ["array", "view"] (sp_told K)) (C__law_writes : Cal P w K mg base 1 "_law_writes" ["view", "word", "told_lot"] (sp__law_writes K)) (C__law_rule : Cal P w K mg base 1 "_law_rule" ["view", "symbols"] (sp__law_rule K)) (C__law_parts_right : Cal P w K mg base 12 "_law_parts_right" ["box", "array", "view", "lot", "symbols", "due"] (sp__law_parts_right K)) (K_Array : MakC P w K mg base 6 "Array" n_Array ["self", "disks", "lost", "records", "changes", "contents"] fun C => sp_Array K C) : Cal P w K mg base 13 "_law_right" ["box"] (sp__law_right K) := ⟨f, fd, fo__law_right F b_dict b_len b_list b_range b_sorted b_tuple C__law_drawn C__law_take C__law_word C__law_lot C_head_word C_lot_number C__law_left_view C__law_without C__law_asked C_told C__law_writes C__law_rule C__law_parts_right K_Array, hg, F.kp, F.bindsN fun _ _ _ _ _ _ us hl => match us, hl with | [_], _ => rfl⟩
def m_law (script : Scr) : Mn (Sto K) Bool :=
  (mb (mb (mc (b62 ((if (if ((script.l.length : Nat) : Int) < (4 : Int) then ((script.l.length : Nat) : Int) else (4 : Int)) > (2 : Int) then (if ((script.l.length : Nat) : Int) < (4 : Int) then ((script.l.length : Nat) : Int) else (4 : Int)) else (2 : Int)) : Int)) (rng 0 ((if (if ((script.l.length : Nat) : Int) < (4 : Int) then ((script.l.length : Nat) : Int) else (4 : Int)) > (2 : Int) then (if ((script.l.length : Nat) : Int) < (4 : Int) then ((script.l.length : Nat) : Int) else (4 : Int)) else (2 : Int)) : Int).toNat)) fun xs => forC (β := Empty) xs () fun a875 (t874 : Unit) =>
    (mb (mb (mb (mb (mb (mb (mu (m__law_cell script a875)) fun x_876 => mb (mp ()) fun z877 => mp (x_876, z877)) fun z878 => (m__law_box z878.1)) fun x_879 => mb (mp ()) fun z880 => mp (x_879, z880)) fun z881 => (m__law_right z881.1)) fun b882 => mp (!b882)) fun b => mi b
      (mb (mp false) fun x => mp (.rt x))
      (mp (.nx ())))) (ctk (fun t883 => (mp true)) fun _ => mbad))
abbrev sp_law (K : PySem.W.Frag) : Sp := Prom (rIm K) (S := (Sto K)) (fun i : Scr => [.im (pv K i)]) fun i => m_law i
theorem len_law : ∀ vs H Q E, sp_law K vs H Q E → vs.length = 1 := prom_len (S := (Sto K)) (Ret := (rIm K)) (As := fun i : Scr => [.im (pv K i)]) (m := fun i => m_law i) fun _ => rfl
theorem sc_law : FnScope ["script", "k"] ["script"] (defScope (top 84)) := ⟨rfl, rfl, rfl, by decide +kernel, rfl, by decide +kernel, by decide +kernel⟩
theorem fo_law {f : Addr} {fd : FuncData} (F : FnP K "law" (top 84) f fd) (b_len : mg "len" = none) (b_max : mg "max" = none) (b_min : mg "min" = none) (b_range : mg "range" = none) (C__law_right : Cal P w K mg base 13 "_law_right" ["box"] (sp__law_right K)) (C__law_box : Cal P w K mg base 1 "_law_box" ["great"] (sp__law_box K)) (C__law_cell : Cal P w K mg base 1 "_law_cell" ["script", "k"] (sp__law_cell K)) : FnOk P w K mg base CX0 14 f fd ["script"] (sp_law K) := by
  obtain ⟨f__law_right, fd__law_right, G__law_right, g__law_right, kp__law_right, bi__law_right⟩ := C__law_right.ex
  obtain ⟨f__law_box, fd__law_box, G__law_box, g__law_box, kp__law_box, bi__law_box⟩ := C__law_box.ex
  obtain ⟨f__law_cell, fd__law_cell, G__law_cell, g__law_cell, kp__law_cell, bi__law_cell⟩ := C__law_cell.ex
  refine F.ok sc_law (len_law (K := K)) (fun cdv A outer s H vs Q E hr h => ?_)
  have hl : vs.length = 1 := len_law (K := K) vs H Q E h
  match vs, hl, h with
  | [v0], _, h => exact ⟨_, PSs.nox ((pss_cons (ps_for PassesOwn.never rfl (pi_range1 rfl b_range (pa_cons (pe_callB (call_max2 rfl) rfl b_max bt_max (pa_cons pe_int (pa_cons (pe_callB (call_min2 rfl) rfl b_min bt_min (pa_cons pe_int (pa_cons (pe_callB call_len_seq rfl b_len bt_len (pa_cons (L2.pv 0) pa_nil)) pa_nil))) pa_nil))) pa_nil)) (pg_name (i := 1) sc_law.nd rfl (Or.inl rfl)) (pss_one (ps_if (pt_not (pt_val (pe_call G__law_right (hr.mono (Nat.le_of_ble_eq_true rfl)) rfl g__law_right kp__law_right bi__law_right .nil pass0 (pa_cons (pe_call G__law_box (hr.mono (Nat.le_of_ble_eq_true rfl)) rfl g__law_box kp__law_box bi__law_box .nil pass0 (pa_cons (pe_call G__law_cell (hr.mono (Nat.le_of_ble_eq_true rfl)) rfl g__law_cell kp__law_cell bi__law_cell .nil pass0 (pa_cons (L2.pv 0) (pa_cons (L2.pv 1) pa_nil))) pa_nil)) pa_nil)))) (pss_one (ps_ret pe_bl)) pss_nil))) (pss_one (ps_ret pe_bl)))), prom_ok (n := 1) (S := (Sto K)) (Ret := (rIm K)) (As := fun i : Scr => [.im (pv K i)]) (m := fun i => m_law i) 1 (fun _ => rfl) rfl (fun script => (show RN (rIm K) _ (fun (s : (Sto K)) => [.im (pv K script), .no]) (m_law script) (fun (s : (Sto K)) => [.no, .no]) from (rn_of (rt_seqC (rc_for (β := Empty) (Γb := fun b _ => nomatch b) (Γr := (fun (s : (Sto K)) => [.no, .no])) (ΓL := fun (t874 : Unit) (s : (Sto K)) => [.im (pv K script), .no]) (Γx := fun (a875 : Int) (t874 : Unit) (s : (Sto K)) => [.im (pv K script), .im (pv K a875)]) (im_rng1 fun _ => (ap_cons (ep_cb (ap_cons (ep_int (K := K)) (ap_cons (ep_cb (ap_cons (ep_int (K := K)) (ap_cons (ep_cb (ap_cons (ep_var rfl) ap_nil) c_lenS) ap_nil)) c_min2) ap_nil)) c_max2) ap_nil)) (fun s => (.cons (.rfl _) (.cons (.rfl _) .nil))) (fun a875 t874 s => (gt_name (Γ := [.im (pv K script), .no]) (i := 1) (Γ' := [.im (pv K script), .im (pv K a875)]) rfl rfl)) fun a875 t874 => (rc_if (tm_not (tm_B (em_of_eo (eo_callS (f := fun (z881 : Ref × Unit) => z881.1) (am_cons (em_of_eo (eo_callS (f := fun (z878 : Int × Unit) => z878.1) (am_cons (em_of_eo (eo_call0 (i := (script, a875)) (ps := [pv K script, pv K a875]) (fun _ => (ap_cons (ep_var rfl) (ap_cons (ep_var rfl) ap_nil))) rfl)) am_nil) (fun _ _ => rfl) fun _ _ => rfl)) am_nil) (fun _ _ => rfl) fun _ _ => rfl)))) (rc_of_x (rx_ret (rt_ret (em_pure fun _ => (ep_bl (K := K))) fun s => (.cons (.no _) (.cons (.no _) .nil))))) (rc_of_p (rp_next (x := ()) fun s => (.cons (.rfl _) (.cons (.no _) .nil)))))) fun t883 => (rt_ret (em_pure fun _ => (ep_bl (K := K))) fun s => (.cons (.no _) (.cons (.rfl _) .nil))))))) h⟩
theorem ok_law {f : Addr} {fd : FuncData} (F : FnP K "law" (top 84) f fd) (hg : mg "law" = some (.ref f)) (b_len : mg "len" = none) (b_max : mg "max" = none) (b_min : mg "min" = none) (b_range : mg "range" = none) (C__law_right : Cal P w K mg base 13 "_law_right" ["box"] (sp__law_right K)) (C__law_box : Cal P w K mg base 1 "_law_box" ["great"] (sp__law_box K)) (C__law_cell : Cal P w K mg base 1 "_law_cell" ["script", "k"] (sp__law_cell K)) : Cal P w K mg base 14 "law" ["script"] (sp_law K) := ⟨f, fd, fo_law F b_len b_max b_min b_range C__law_right C__law_box C__law_cell, hg, F.kp, F.bindsN fun _ _ _ _ _ _ us hl => match us, hl with | [_], _ => rfl⟩
end
end L60

namespace L60
open PySem L2 Mir Num
/-! numbers by a prime: what the program's functions compute -/
theorem lt64 {x : Int} (h0 : 0 ≤ x) (h1 : x < 1000000) : x.natAbs < 2 ^ 64 := by omega
theorem power_ok {p a : Int} {T : Nat} (p1 : 1 < p) (p2 : p ≤ 1000) (a0 : 0 ≤ a) (a1 : a < p) (hT : T < 2 ^ 60) {Q : Int → Unit → Prop} (q : ∀ r, 0 ≤ r → r < p → Cg p r (a ^ T) → Q r ()) : (m_power_of p a T ()).st Q := by
  unfold m_power_of
  simp only [st_mb, st_mp]
  refine st_whP (Inv := fun n t _ => ∃ T' : Nat, t.2.1 = (T' : Int) ∧ T' < 2 ^ n ∧ 0 ≤ t.1 ∧ t.1 < p ∧ 0 ≤ t.2.2 ∧ t.2.2 < p ∧ Cg p (t.2.2 * t.1 ^ T') (a ^ T)) ?_ ⟨T, rfl, by omega, a0, a1, Int.one_nonneg, p1, Cg.of_eq (Int.one_mul _)⟩
  rintro n ⟨x, y, z⟩ _ ⟨T', e, h1, x0, x1, z0, z1, hc⟩
  dsimp only at *
  subst e
  simp only [st_mb, st_mp, st_mc, st_mi]
  have hxx : mulOk x x = true := mulOk_of (lt64 x0 (by omega)) (lt64 x0 (by omega))
  have em0 : ∀ w : Int, 0 ≤ w % p := fun w => Int.emod_nonneg w (by omega)
  have em1 : ∀ w : Int, w % p < p := fun w => Int.emod_lt_of_pos w (by omega)
  refine ⟨fun c => ?_, fun c => ?_⟩
  · have c := of_decide_eq_true c
    obtain ⟨n', rfl⟩ : ∃ n', n = n' + 1 := ⟨n - 1, by
      rcases Nat.eq_zero_or_pos n with e | e
      · subst e; simp at h1; omega
      · omega⟩
    refine ⟨n', rfl, fun d => ?_, fun d => ?_⟩
    · have d : ((T' : Int) % 2) = 1 := of_decide_eq_true d
      refine ⟨mulOk_of (lt64 z0 (by omega)) (lt64 x0 (by omega)), modOk_of (by omega), hxx, modOk_of (by omega), T' / 2, by omega, ?_, em0 _, em1 _, em0 _, em1 _, ?_⟩
      · rw [Nat.pow_succ] at h1; omega
      · refine Cg.trans ((Cg.emod.mul (Cg.emod.pow _)).trans (Cg.of_eq ?_)) hc
        obtain ⟨k, rfl⟩ : ∃ k, T' = 2 * k + 1 := ⟨T' / 2, by omega⟩
        rw [show (2 * k + 1) / 2 = k by omega, Int.pow_succ, Int.pow_mul, show x ^ 2 = x * x by rw [Int.pow_succ, Int.pow_succ, Int.pow_zero, Int.one_mul]]
        grind
    · have d : ¬ ((T' : Int) % 2) = 1 := of_decide_eq_false d
      refine ⟨hxx, modOk_of (by omega), T' / 2, by omega, ?_, em0 _, em1 _, z0, z1, ?_⟩
      · rw [Nat.pow_succ] at h1; omega
      · refine Cg.trans ((Cg.refl.mul (Cg.emod.pow _)).trans (Cg.of_eq ?_)) hc
        obtain ⟨k, rfl⟩ : ∃ k, T' = 2 * k := ⟨T' / 2, by omega⟩
        rw [show (2 * k) / 2 = k by omega, Int.pow_mul, show x ^ 2 = x * x by rw [Int.pow_succ, Int.pow_succ, Int.pow_zero, Int.one_mul]]
  · have c := of_decide_eq_false c
    have : T' = 0 := by omega
    subst this
    rw [Int.pow_zero, Int.mul_one] at hc
    exact q z z0 z1 hc
theorem inverse_ok {p a : Int} (hp : Pm p) (p2 : p ≤ 1000) (a0 : 0 ≤ a) (a1 : a < p) (an : ¬ Cg p a 0) {Q : Int → Unit → Prop} (q : ∀ r, 0 ≤ r → r < p → Cg p (r * a) 1 → Q r ()) : (m_inverse_of p a ()).st Q := by
  unfold m_inverse_of
  simp only [st_mu]
  have := hp.1
  rw [show (p - 2 : Int) = ((p - 2).toNat : Nat) by omega]
  exact power_ok (by omega) p2 a0 a1 (by omega) fun r r0 r1 hr => q r r0 r1 ((hr.mul Cg.refl).trans (hp.fermat an))
theorem val_in {p x : Int} (hp : 0 < p) {cs : List Int} : 0 ≤ val p x cs ∧ val p x cs < p := by
  rw [val_ev]
  exact ⟨Int.emod_nonneg _ (by omega), Int.emod_lt_of_pos _ hp⟩
theorem value_ok {p x : Int} {d : Sq Int} (p1 : 0 < p) (p2 : p ≤ 1000) (x0 : 0 ≤ x) (x1 : x ≤ 1000) {Q : Int → Unit → Prop} (q : Q (val p x d.l) ()) : (m_value_at p d x ()).st Q := by
  unfold m_value_at
  simp only [st_mb, st_mp]
  refine st_forF (f := fun t a => (t * x + a) % p) (P := fun t => 0 ≤ t ∧ t < p) ⟨Int.le_refl _, p1⟩ (fun a _ t ht => ?_) fun _ => ?_
  · simp only [st_mb, st_mp, st_mc]
    exact ⟨mulOk_of (lt64 ht.1 (by omega)) (lt64 x0 (by omega)), modOk_of p1, trivial, ⟨Int.emod_nonneg _ (by omega), Int.emod_lt_of_pos _ p1⟩, trivial⟩
  · rw [List.foldl_reverse]
    exact q
/-- the data through points -/
theorem through_ok {p : Int} {pts : List (Int × Int)} (hp : Pm p) (p2 : p ≤ 1000) (hl : pts.length ≤ 1000) (hi : ∀ a ∈ pts, 0 ≤ a.1 ∧ a.1 < p ∧ 0 ≤ a.2 ∧ a.2 < p) (hn : (pts.map fun a => a.1).Nodup) {Q : Tu Int → Unit → Prop} (q : ∀ F B, Thr p pts F B → Q ⟨F⟩ ()) : (m_data_through p pts ()).st Q := by
  unfold m_data_through
  simp only [st_mb, st_mp]
  have p0 := hp.pos
  refine st_forP (Inv := fun rest t _ => ∃ pre, pre ++ rest = pts ∧ Thr p pre t.1 t.2) ?_ ?_ ⟨[], rfl, Thr.nil hp⟩
  · rintro ⟨x, y⟩ xs ⟨F, B⟩ _ ⟨pre, e, h⟩
    dsimp only at *
    have hm : (x, y) ∈ pts := by rw [← e]; simp
    obtain ⟨x0, x1, y0, y1⟩ := hi _ hm
    dsimp only at x0 x1 y0 y1
    have hne : ∀ a ∈ pre, ¬ Cg p x a.1 := fun a ha c => by
      have ha2 := hi a (by rw [← e]; exact List.mem_append_left _ ha)
      have c := c.eq x0 x1 ha2.1 ha2.2.1
      rw [← e, List.map_append, List.map_cons] at hn
      exact (List.nodup_append.mp hn).2.2 a.1 (List.mem_map.mpr ⟨a, ha, rfl⟩) x (List.mem_cons_self ..) c.symm
    have hlen : pre.length ≤ 1000 := by have := congrArg List.length e; rw [List.length_append] at this; omega
    simp only [st_mb, st_mp, st_mu]
    refine value_ok p0 p2 x0 (by omega) ?_
    simp only [st_mb, st_mp, st_mu]
    refine value_ok p0 p2 x0 (by omega) ?_
    have ib := val_in (x := x) p0 (cs := B)
    have ia := val_in (x := x) p0 (cs := F)
    refine inverse_ok hp p2 ib.1 ib.2 ?_ fun r r0 r1 hr => ?_
    · rw [val_ev]
      exact fun c => h.bn x hne (Cg.emod.symm.trans c)
    simp only [st_mb, st_mp, st_mc]
    have l1 : ((F ++ [0]) : List Int).length = pre.length + 1 := by rw [List.length_append, h.fl]; rfl
    have l2 : (0 :: B).length = pre.length + 2 := by rw [List.length_cons, h.bl]
    rw [List.append_nil]
    have l3 : (B ++ [0]).length = pre.length + 2 := by rw [List.length_append, h.bl]; rfl
    have f0 : ∀ z : Int, 0 ≤ z % p := fun z => Int.emod_nonneg _ (by omega)
    have f1 : ∀ z : Int, z % p < p := fun z => Int.emod_lt_of_pos _ p0
    refine ⟨mulOk_of (by omega) (lt64 r0 (by omega)), modOk_of p0, ?_⟩
    generalize hfac : (y - val p x F) * r % p = fac
    have fa0 : 0 ≤ fac := by rw [← hfac]; exact f0 _
    have fa1 : fac < p := by rw [← hfac]; exact f1 _
    refine ⟨decide_eq_true (by rw [l1]; omega), ?_⟩
    refine st_cmA (g := fun a => (a.1 + fac * a.2) % p) (by rw [List.length_zip, l1, h.bl, Nat.min_self]; omega) (fun a ha => ?_) ?_
    · have hb := h.bi a.2 (List.of_mem_zip (show (a.1, a.2) ∈ _ from ha)).2
      simp only [st_mb, st_mp, st_mc]
      exact ⟨mulOk_of (lt64 fa0 (by omega)) (lt64 hb.1 (by omega)), modOk_of p0, trivial, trivial⟩
    · refine ⟨decide_eq_true (by rw [l2]; omega), decide_eq_true (by rw [l3]; omega), ?_⟩
      refine st_cmA (g := fun a => (a.1 - x * a.2) % p) (by rw [List.length_zip, l2, l3, Nat.min_self]; omega) (fun a ha => ?_) ?_
      · have hb := (List.of_mem_zip (show (a.1, a.2) ∈ _ from ha)).2
        have hb : 0 ≤ a.2 ∧ a.2 < p := by
          rcases List.mem_append.mp hb with hb | hb
          · exact h.bi _ hb
          · rw [List.mem_singleton.mp hb]; omega
        simp only [st_mb, st_mp, st_mc]
        exact ⟨mulOk_of (lt64 x0 (by omega)) (lt64 hb.1 (by omega)), modOk_of p0, trivial, trivial⟩
      · refine ⟨pre ++ [(x, y)], by rw [← e]; simp, h.step hp hne ?_⟩
        rw [← hfac]
        refine (Cg.emod.mul Cg.refl).trans ?_
        have hv : Cg p (val p x B) (ev x B) := by rw [val_ev]; exact Cg.emod
        have hv2 : Cg p (val p x F) (ev x F) := by rw [val_ev]; exact Cg.emod
        have h1 : Cg p (r * ev x B) 1 := (Cg.refl.mul hv.symm).trans hr
        refine (Cg.of_eq (Int.mul_assoc ..)).trans ?_
        exact ((Cg.refl.sub hv2).mul h1).trans (Cg.of_eq (by grind))
  · rintro ⟨F, B⟩ _ ⟨pre, e, h⟩
    rw [List.append_nil] at e
    subst e
    exact q F B h
theorem number_ok {row : Tu Int} {p : Int} (p1 : 0 < p) (p2 : p ≤ 1000) (hl : row.l.length ≤ 64) (hi : In p row.l) {Q : Int → Unit → Prop} (q : Q (ev p row.l.reverse) ()) : (m_number_from row p ()).st Q := by
  unfold m_number_from
  simp only [st_mb, st_mp]
  refine st_forP (Inv := fun rest t _ => ∃ pre, pre ++ rest = row.l ∧ t = ev p pre.reverse ∧ 0 ≤ t ∧ t < p ^ pre.length) ?_ ?_ ⟨[], rfl, rfl, Int.le_refl _, by rw [List.length_nil, Int.pow_zero]; decide⟩
  · rintro a xs t _ ⟨pre, e, rfl, t0, t1⟩
    simp only [st_mb, st_mp, st_mc]
    have ha := hi a (by rw [← e]; simp)
    have hle : pre.length ≤ 64 := by have := congrArg List.length e; rw [List.length_append] at this; omega
    have hb : Bn 641 (p ^ pre.length) := ((Bn.small (show 0 ≤ p by omega) (by omega)).pow pre.length).mono (by omega)
    refine ⟨(hb.le t0 (by omega)).ok (Bn.small (show 0 ≤ p by omega) (by omega)) (by decide) (by decide) (by decide), pre ++ [a], by rw [← e]; simp, ?_, ?_⟩
    · rw [List.reverse_append]
      show ev p pre.reverse * p + a = a + p * ev p pre.reverse
      rw [Int.mul_comm, Int.add_comm]
    · have h1 := Int.mul_nonneg t0 (show 0 ≤ p by omega)
      have h2 : (ev p pre.reverse + 1) * p ≤ p ^ pre.length * p := Int.mul_le_mul_of_nonneg_right (by omega) (by omega)
      rw [Int.add_mul] at h2
      rw [List.length_append, List.length_singleton, Int.pow_succ]
      omega
  · rintro t _ ⟨pre, e, rfl, -⟩
    rw [List.append_nil] at e
    subst e
    exact q
theorem figures_ok {n p : Int} {j : Nat} (p1 : 0 < p) (p2 : p ≤ 1000) (hj : j ≤ 64) {Q : Tu Int → Unit → Prop} (q : Q ⟨(digs p j n).reverse⟩ ()) : (m_figures n p j ()).st Q := by
  unfold m_figures
  simp only [st_mb, st_mp, st_mc]
  refine ⟨b62_of (by omega) (by omega), ?_⟩
  refine st_forP (Inv := fun rest t _ => t.2 ++ digs p rest.length t.1 = digs p j n) ?_ ?_ ?_
  · rintro a xs ⟨n', acc⟩ _ h
    have h : acc ++ digs p (xs.length + 1) n' = digs p j n := h
    simp only [st_mb, st_mp, st_mc]
    have hl : acc.length ≤ 64 := by have := congrArg List.length h; rw [List.length_append, digs_len, digs_len] at this; omega
    refine ⟨modOk_of p1, decide_eq_true (by omega), divOk_of p1 (by omega), ?_⟩
    rw [List.append_assoc]
    exact h
  · rintro ⟨n', acc⟩ _ h
    have h : acc ++ [] = digs p j n := h
    rw [List.append_nil] at h
    subst h
    exact q
  · show [] ++ digs p (rng 0 (j : Int).toNat).length n = _
    rw [rng_length, Int.toNat_natCast, List.nil_append]
/-- word of data, by a code -/
theorem word_ok {code : C_Code} {d : Tu Int} {h : Nat} (p1 : 0 < code.f_prime) (p2 : code.f_prime ≤ 1000) (hl : code.f_length = h) (hh : h ≤ 1000) {Q : Tu Int → Unit → Prop} (q : Q ⟨(rng 0 h).map fun y => val code.f_prime y d.l⟩ ()) : (m_word_of code d ()).st Q := by
  unfold m_word_of
  simp only [st_mb, st_mp, st_mc]
  rw [hl]
  refine ⟨b62_of (by omega) (by omega), st_cmA (g := fun y => val code.f_prime y d.l) (by rw [rng_length]; omega) (fun y hy => ?_) ?_⟩
  · have hy := mem_rng.mp hy
    rw [st_mu]
    exact value_ok p1 p2 (by omega) (by omega) ⟨rfl, rfl⟩
  · rw [Int.toNat_natCast]
    exact q
theorem data_ok {code : C_Code} {pts : List (Int × Int)} {j : Nat} (hp : Pm code.f_prime) (p2 : code.f_prime ≤ 1000) (hj : code.f_symbols = j) (hl : j ≤ pts.length) (hl2 : pts.length ≤ 1000) (hi : ∀ a ∈ pts, 0 ≤ a.1 ∧ a.1 < code.f_prime ∧ 0 ≤ a.2 ∧ a.2 < code.f_prime) (hn : (pts.map fun a => a.1).Nodup) {Q : Tu Int → Unit → Prop} (q : ∀ F, F.length = j → In code.f_prime F → (∀ a ∈ pts.take j, Cg code.f_prime (ev a.1 F) a.2) → Q ⟨F⟩ ()) : (m_data_of code pts ()).st Q := by
  unfold m_data_of
  rw [st_mu, hj, cutL_to (by omega), Int.toNat_natCast]
  refine through_ok hp p2 (by rw [List.length_take]; omega) (fun a ha => hi a (List.mem_of_mem_take ha)) ?_ fun F B h => ?_
  · rw [List.map_take]
    exact hn.sublist (List.take_sublist ..)
  · exact q F (by rw [h.fl, List.length_take]; omega) h.fi h.fe
end L60

namespace L60
open PySem L2 Mir Num
/-! lots by their numbers -/
theorem tab_choose : (List.range 25).all (fun m => (List.range 25).all fun k => okv (m_choose m k ()) (bin m k : Int)) = true := by decide +kernel
theorem tab_choose1 : (List.range 25).all (fun (m : Nat) => okv (m_choose m (-1) ()) (1 : Int)) = true := by decide +kernel
theorem choose_ok {m k : Nat} (hm : m ≤ 24) (hk : k ≤ 24) {Q : Int → Unit → Prop} (q : Q (bin m k) ()) : (m_choose m k ()).st Q := by
  have h := tab_choose
  rw [List.all_eq_true] at h
  have h1 := h m (List.mem_range.mpr (by omega))
  rw [List.all_eq_true] at h1
  exact of_okv (h1 k (List.mem_range.mpr (by omega))) q
theorem choose_1 {m : Nat} (hm : m ≤ 24) {Q : Int → Unit → Prop} (q : Q 1 ()) : (m_choose m (-1) ()).st Q := by
  have h := tab_choose1
  rw [List.all_eq_true] at h
  exact of_okv (h m (List.mem_range.mpr (by omega))) q
/-- what an array is -/
structure Ar (a : C_Array) (d f m k j h q : Nat) (p : Int) : Prop where
  di : a.f_disks = (d + f : Nat)
  lo : a.f_lost = f
  re : a.f_records = m
  ch : a.f_changes = k
  lt : a.f_lots = bin m k
  sy : a.f_symbols = j
  he : a.f_heads = h
  co : a.f_contents = q
  d1 : 1 ≤ d
  df : d + f ≤ 12
  k1 : 1 ≤ k
  km : k ≤ m
  m2 : m ≤ 24
  q1 : 2 ≤ q
  q2 : q ≤ 997
  h1 : 2 ≤ h
  h2 : h ≤ 997
  j1 : j ≤ 24
  hd : ∃ c, h = (j + 1) + f * c ∧ j + 1 ≤ d * c
  cs : (j = 0 ∧ bin m k = 1) ∨ (j = 1 ∧ bin m k < q) ∨ (2 ≤ j ∧ a.f_prime = some p ∧ Pm p ∧ p < q ∧ h ≤ p ∧ (bin m k : Int) ≤ p ^ j)
section
variable {a : C_Array} {d f m k j h q : Nat} {p : Int}
theorem next_ok (A : Ar a d f m k j h q p) {r : Int} {m' k' : Nat} (hr : r + m' + 1 = m) (r0 : 0 ≤ r) (hk : k' ≤ 24) {Q : Int → Unit → Prop} (h0 : k' = 0 → Q 0 ()) (h1 : ∀ i, k' = i + 1 → Q (bin m' i) ()) : (m_lots_next a r k' ()).st Q := by
  unfold m_lots_next
  have := A.m2
  simp only [st_mb, st_mp, st_mi, st_mu, A.re]
  refine ⟨fun c => ?_, fun c => ?_⟩
  · have c := of_decide_eq_true c
    obtain ⟨i, rfl⟩ : ∃ i, k' = i + 1 := ⟨k' - 1, by omega⟩
    rw [show (m : Int) - r - 1 = (m' : Nat) by omega, show ((i + 1 : Nat) : Int) - 1 = (i : Nat) by omega]
    exact choose_ok (by omega) (by omega) (h1 i rfl)
  · have c := of_decide_eq_false c
    exact h0 (by omega)
theorem lot_from_ok (A : Ar a d f m k j h q p) {n : Int} (n0 : 0 ≤ n) (n1 : n < bin m k) {Q : List Int → Unit → Prop} (qq : Q (lotAt m k 0 n) ()) : (m_lot_from a n ()).st Q := by
  unfold m_lot_from
  have hm := A.m2
  have hkm := A.km
  simp only [st_mb, st_mp, st_mc, st_mg, A.re]
  refine ⟨b62_of (by omega) (by omega), ?_⟩
  rw [Int.toNat_natCast]
  refine st_forP (Inv := fun rest (t : List Int × Int) _ => ∃ (m' k' : Nat) (r : Int), rest = rng r m' ∧ 0 ≤ r ∧ r + m' = m ∧ t.1.length + k' = k ∧ t.1 ++ lotAt m' k' r t.2 = lotAt m k 0 n ∧ 0 ≤ t.2 ∧ (0 < k' → t.2 < bin m' k')) ?_ ?_ ⟨m, k, 0, rfl, Int.le_refl _, by omega, by simp, by simp, n0, fun _ => n1⟩
  · rintro x xs ⟨F, w⟩ _ ⟨m', k', r, e, r0, hr, hl, ht, w0, w1⟩
    dsimp only at *
    cases m' with
    | zero => rw [rng_zero] at e; cases e
    | succ m' =>
    rw [rng_succ] at e
    cases e
    simp only [st_mb, st_mp, st_mc, st_mi, st_mu, A.ch]
    rw [show (k : Int) - (F.length : Nat) = (k' : Nat) by omega]
    refine next_ok A (m' := m') (by omega) r0 (by omega) (fun e => ?_) (fun i e => ?_)
    · subst e
      refine ⟨fun c => ?_, fun _ => ?_⟩
      · have := of_decide_eq_true c; omega
      · refine ⟨m', 0, x + 1, rfl, by omega, by omega, hl, ?_, by omega, fun c => by omega⟩
        rw [lot_k0] at ht ⊢
        exact ht
    · subst e
      have w1 := w1 (by omega)
      rw [bin_s] at w1
      refine ⟨fun c => ?_, fun c => ?_⟩
      · have c := of_decide_eq_true c
        refine ⟨decide_eq_true (by omega), m', i, x + 1, rfl, by omega, by omega, by rw [List.length_append, List.length_singleton]; omega, ?_, w0, fun _ => c⟩
        rw [← ht]
        show F ++ [x] ++ _ = F ++ (if w < (bin m' i : Int) then x :: lotAt m' i (x + 1) w else _)
        rw [if_pos c, List.append_assoc]
        rfl
      · have c := of_decide_eq_false c
        refine ⟨m', i + 1, x + 1, rfl, by omega, by omega, hl, ?_, by omega, fun _ => by omega⟩
        rw [← ht]
        show F ++ _ = F ++ (if w < (bin m' i : Int) then x :: lotAt m' i (x + 1) w else lotAt m' (i + 1) (x + 1) (w - bin m' i))
        rw [if_neg c]
  · rintro ⟨F, w⟩ _ ⟨m', k', r, e, r0, hr, hl, ht, w0, w1⟩
    dsimp only at *
    cases m' with
    | succ m' => rw [rng_succ] at e; cases e
    | zero =>
      rw [show lotAt 0 k' r w = [] from rfl, List.append_nil] at ht
      rw [ht]
      exact qq
theorem number_ok' (A : Ar a d f m k j h q p) {n : Int} (n0 : 0 ≤ n) (n1 : n < bin m k) {lot : Sq Int} (hl : lot.l = lotAt m k 0 n) {Q : Int → Unit → Prop} (qq : Q n ()) : (m_number_of_lot a lot ()).st Q := by
  unfold m_number_of_lot
  have hm := A.m2
  have hkm := A.km
  simp only [st_mb, st_mp, st_mc, st_mg, A.re, A.ch]
  refine ⟨b62_of (by omega) (by omega), ?_⟩
  rw [Int.toNat_natCast, hl]
  refine st_forP (Inv := fun rest (t : Int × Int) _ => ∃ (m' k' : Nat) (r n' : Int) (pre : List Int), rest = rng r m' ∧ 0 ≤ r ∧ r + m' = m ∧ k' ≤ k ∧ t.2 = k' ∧ lotAt m k 0 n = pre ++ lotAt m' k' r n' ∧ (∀ x ∈ pre, x < r) ∧ 0 ≤ n' ∧ n' < bin m' k' ∧ t.1 + n' = n) ?_ ?_ ⟨m, k, 0, n, [], rfl, Int.le_refl _, by omega, Nat.le_refl _, rfl, rfl, (fun x h => nomatch h), n0, n1, by simp⟩
  · rintro x xs ⟨F, w⟩ _ ⟨m', k', r, n', pre, e, r0, hr, hk', ew, ht, hp, w0, w1, es⟩
    dsimp only at *
    cases m' with
    | zero => rw [rng_zero] at e; cases e
    | succ m' =>
    rw [rng_succ] at e
    cases e
    subst ew
    simp only [st_mb, st_mp, st_mc, st_mi, st_mu]
    rw [ht]
    cases k' with
    | zero =>
      rw [bin_0] at w1
      refine ⟨fun c => ?_, fun _ => ?_⟩
      · have c := of_decide_eq_true c
        rw [lot_k0, List.append_nil] at c
        have := hp x c
        omega
      · refine next_ok A (k' := 0) (m' := m') (by omega) r0 (by omega) (fun e => ?_) (fun i e => by omega)
        refine ⟨m', 0, x + 1, 0, pre, rfl, by omega, by omega, hk', rfl, by rw [lot_k0, lot_k0], fun y hy => by have := hp y hy; omega, Int.le_refl _, by rw [bin_0]; decide, by omega⟩
    | succ i =>
      rw [bin_s] at w1
      have hu : lotAt (m' + 1) (i + 1) x n' = if n' < (bin m' i : Int) then x :: lotAt m' i (x + 1) n' else lotAt m' (i + 1) (x + 1) (n' - bin m' i) := rfl
      by_cases c : n' < (bin m' i : Int)
      · rw [if_pos c] at hu
        rw [hu]
        refine ⟨fun _ => ?_, fun g => absurd (List.mem_append_right _ (List.mem_cons_self ..)) (of_decide_eq_false g)⟩
        refine ⟨m', i, x + 1, n', pre ++ [x], rfl, by omega, by omega, by omega, by omega, by simp, fun y hy => ?_, w0, c, es⟩
        rcases List.mem_append.mp hy with hy | hy
        · have := hp y hy; omega
        · rw [List.mem_singleton.mp hy]; omega
      · rw [if_neg c] at hu
        rw [hu]
        have lf := lot_facts (m := m') (k := i + 1) (r := x + 1) (n := n' - bin m' i) (by omega) (by omega)
        refine ⟨fun g => ?_, fun _ => ?_⟩
        · exfalso
          rcases List.mem_append.mp (of_decide_eq_true g) with hy | hy
          · have := hp x hy; omega
          · have := lf.2.1 x hy; omega
        · refine next_ok A (k' := i + 1) (m' := m') (by omega) r0 (by omega) (fun e => by omega) (fun i' e => ?_)
          cases e
          refine ⟨m', i + 1, x + 1, n' - bin m' i, pre, rfl, by omega, by omega, hk', rfl, rfl, fun y hy => by have := hp y hy; omega, by omega, by omega, by omega⟩
  · rintro ⟨F, w⟩ _ ⟨m', k', r, n', pre, e, r0, hr, hk', ew, ht, hp, w0, w1, es⟩
    dsimp only at *
    cases m' with
    | succ m' => rw [rng_succ] at e; cases e
    | zero =>
      have : n' < 1 := by
        cases k' with
        | zero => exact w1
        | succ i => have : n' < ((0 : Nat) : Int) := w1; omega
      rw [show F = n by omega]
      exact qq
/-! checks -/
theorem between_ok {v x y : Int} {Q : Bool → Unit → Prop} (q : Q (decide (x ≤ v) && decide (v ≤ y)) ()) : (m_is_between v x y ()).st Q := by
  unfold m_is_between m_is_whole
  simp only [st_mb, st_mp, st_mu, st_mi]
  exact ⟨fun _ => q, fun c => absurd c (by decide)⟩
theorem rising_ok {l : List Int} {t : Bool} (hs : Srt l) (hl : l.length ≤ 1000) {Q : Bool → Unit → Prop} (q : Q true ()) : (m_is_rising ⟨t, l⟩ ()).st Q := by
  unfold m_is_rising
  simp only [st_mb, st_mp, st_mc]
  refine ⟨b62_of (by omega) (by omega), st_cmA (g := fun _ => true) (by rw [rng_length]; omega) (fun i hi => ?_) ?_⟩
  · have hi := mem_rng.mp hi
    simp only [st_mb, st_mp, st_mo]
    have h1 : i.toNat < l.length := by omega
    have h2 : i.toNat + 1 < l.length := by omega
    refine ⟨l[i.toNat], by rw [atI_get' hi.1 (by omega), List.getElem?_eq_getElem h1], l[i.toNat + 1], by rw [atI_get' (by omega) (by omega), show (i + 1).toNat = i.toNat + 1 by omega, List.getElem?_eq_getElem h2], ?_, trivial⟩
    exact decide_eq_true (List.pairwise_iff_getElem.mp hs _ _ h1 h2 (by omega))
  · rw [allid]
    have : ((rng 0 ((l.length : Int) - 1).toNat).all fun _ => true) = true := by simp
    rw [this]
    exact q
theorem records_ok (A : Ar a d f m k j h q p) {l : List Int} {t : Bool} (hs : Srt l) (hi : ∀ x ∈ l, 0 ≤ x ∧ x < m) (hl : l.length = k) {Q : Bool → Unit → Prop} (qq : Q true ()) : (m_is_lot a ⟨t, l⟩ ()).st Q := by
  unfold m_is_lot m_are_records m_is_list__I
  have hm := A.m2
  have hkm := A.km
  simp only [st_mb, st_mp, st_mi, st_mu, A.ch, A.re]
  refine ⟨fun c => absurd c (by decide), fun _ => ⟨fun c => ?_, fun _ => ?_⟩⟩
  · rw [hl] at c
    simp at c
  · refine st_cmA (g := fun _ => true) (by omega) (fun x hx => ?_) ?_
    · have := hi x hx
      rw [st_mu]
      exact between_ok ⟨by simp; omega, rfl⟩
    · rw [allid]
      have : (l.all fun _ => true) = true := by simp
      rw [this]
      exact ⟨fun _ => rising_ok hs (by omega) qq, fun c => absurd c (by decide)⟩
theorem check_lot_ok (A : Ar a d f m k j h q p) {n : Int} (n0 : 0 ≤ n) (n1 : n < bin m k) {t : Bool} {Q : Unit → Unit → Prop} (qq : Q () ()) : (m_check_lot a ⟨t, lotAt m k 0 n⟩ ()).st Q := by
  unfold m_check_lot
  simp only [st_mb, st_mp, st_mi, st_mu, st_mbad]
  obtain ⟨l1, l2, l3⟩ := lot_facts (r := 0) n0 n1
  refine records_ok A l3 (fun x hx => by have := l2 x hx; omega) l1 ?_
  exact ⟨fun c => absurd c (by decide), fun _ => qq⟩
theorem lot_number_ok (A : Ar a d f m k j h q p) {n : Int} (n0 : 0 ≤ n) (n1 : n < bin m k) {t : Bool} {Q : Int → Unit → Prop} (qq : Q n ()) : (m_lot_number a ⟨t, lotAt m k 0 n⟩ ()).st Q := by
  unfold m_lot_number
  simp only [st_mb, st_mu]
  exact check_lot_ok A n0 n1 (number_ok' A n0 n1 rfl qq)
end
/-! the law's own lot -/
theorem lchoose_eq : m__law_choose = m_choose := rfl
theorem atI_last {α : Type} {xs : List α} {x : α} : atI (xs ++ [x]) (-1) = some x := by
  unfold atI ixN
  rw [if_neg (by decide), if_pos (by rw [List.length_append, List.length_singleton]; omega), List.length_append, List.length_singleton, show (-1 + ((xs.length + 1 : Nat) : Int)).toNat = xs.length by omega]
  show (xs ++ [x])[xs.length]? = _
  simp
theorem law_lot_ok {m k : Nat} (hkm : k ≤ m) (hm : m ≤ 24) {n : Int} (n0 : 0 ≤ n) (n1 : n < bin m k) {Q : List Int → Unit → Prop} (qq : Q (lotAt m k 0 n) ()) : (m__law_lot m k n ()).st Q := by
  unfold m__law_lot
  simp only [st_mb, st_mp, st_mc, st_mg, lchoose_eq]
  refine ⟨b62_of (by omega) (by omega), ?_⟩
  rw [Int.toNat_natCast]
  refine st_forP (Inv := fun rest (t : List Int × Int × Int) _ => ∃ (m' k' i : Nat), rest = rng i k' ∧ t.1.length = i ∧ i + k' = k ∧ t.2.1 + m' = m ∧ 0 ≤ t.2.1 ∧ t.1 ++ lotAt m' k' t.2.1 t.2.2 = lotAt m k 0 n ∧ 0 ≤ t.2.2 ∧ t.2.2 < bin m' k') ?_ ?_ ⟨m, k, 0, rfl, rfl, by omega, by simp, Int.le_refl _, by simp, n0, n1⟩
  · rintro x xs ⟨F, r0, w0⟩ _ ⟨m0, k0, i, e, hF, hk, hr, hr0, ht, hw0, hw1⟩
    dsimp only at *
    cases k0 with
    | zero => rw [rng_zero] at e; cases e
    | succ k0 =>
    rw [rng_succ] at e
    cases e
    simp only [st_mb, st_mp, st_mc, st_mu, st_mo, st_mi]
    refine ⟨by rw [b62_of (by omega) (by omega), b62_of (by omega) (by omega)]; rfl, ?_⟩
    rw [show ((m : Int) - r0).toNat = m0 by omega]
    refine st_forP (Inv := fun rest (t : List Int × Int) _ => ∃ (m' : Nat) (r : Int), rest = rng r m' ∧ r + m' = m ∧ 0 ≤ r ∧ ((t.1.length = i ∧ t.1 ++ lotAt m' (k0 + 1) r t.2 = lotAt m k 0 n ∧ 0 ≤ t.2 ∧ t.2 < bin m' (k0 + 1)) ∨ (∃ (pre : List Int) (z : Int) (m2 : Nat), t.1 = pre ++ [z] ∧ pre.length = i ∧ 0 ≤ z ∧ z + 1 + m2 = m ∧ t.1 ++ lotAt m2 k0 (z + 1) t.2 = lotAt m k 0 n ∧ 0 ≤ t.2 ∧ t.2 < bin m2 k0))) ?_ ?_ ⟨m0, r0, rfl, hr, hr0, .inl ⟨hF, ht, hw0, hw1⟩⟩
    · rintro y ys ⟨G, w⟩ _ ⟨m', r, e, hr, hr0, hc⟩
      dsimp only at *
      cases m' with
      | zero => rw [rng_zero] at e; cases e
      | succ m' =>
      rw [rng_succ] at e
      cases e
      simp only [st_mb, st_mp, st_mc, st_mi, st_mu]
      rw [show (m : Int) - y - 1 = (m' : Nat) by omega]
      rcases hc with ⟨hG, ht, h0, h1⟩ | ⟨pre, z, m2, rfl, hpre, hz, hm2, ht, h0, h1⟩
      · rw [show (k : Int) - (G.length : Nat) - 1 = (k0 : Nat) by omega]
        refine choose_ok (by omega) (by omega) ?_
        rw [bin_s] at h1
        refine ⟨fun _ => ⟨fun c => ?_, fun c => ?_⟩, fun c => absurd (by omega) (of_decide_eq_false c)⟩
        · have c := of_decide_eq_true c
          refine ⟨decide_eq_true (by omega), m', y + 1, rfl, by omega, by omega, .inr ⟨G, y, m', rfl, hG, hr0, by omega, ?_, h0, c⟩⟩
          rw [← ht]
          show G ++ [y] ++ _ = G ++ (if w < (bin m' k0 : Int) then y :: lotAt m' k0 (y + 1) w else _)
          rw [if_pos c, List.append_assoc]
          rfl
        · have c := of_decide_eq_false c
          refine ⟨m', y + 1, rfl, by omega, by omega, .inl ⟨hG, ?_, by omega, by omega⟩⟩
          rw [← ht]
          show G ++ _ = G ++ (if w < (bin m' k0 : Int) then y :: lotAt m' k0 (y + 1) w else lotAt m' (k0 + 1) (y + 1) (w - bin m' k0))
          rw [if_neg c]
      · have hne : decide ((((pre ++ [z]).length : Nat) : Int) = (i : Int)) = true → False := fun c => absurd (of_decide_eq_true c) (by rw [List.length_append, List.length_singleton]; omega)
        cases k0 with
        | zero =>
          rw [show (k : Int) - ((pre ++ [z]).length : Nat) - 1 = -1 by rw [List.length_append, List.length_singleton]; omega]
          refine choose_1 (by omega) ⟨fun c => (hne c).elim, fun _ => ⟨m', y + 1, rfl, by omega, by omega, .inr ⟨pre, z, m2, rfl, hpre, hz, hm2, ht, h0, h1⟩⟩⟩
        | succ k1 =>
          rw [show (k : Int) - ((pre ++ [z]).length : Nat) - 1 = (k1 : Nat) by rw [List.length_append, List.length_singleton]; omega]
          refine choose_ok (by omega) (by omega) ⟨fun c => (hne c).elim, fun _ => ⟨m', y + 1, rfl, by omega, by omega, .inr ⟨pre, z, m2, rfl, hpre, hz, hm2, ht, h0, h1⟩⟩⟩
    · rintro ⟨G, w⟩ _ ⟨m', r, e, hr, hr0, hc⟩
      dsimp only at *
      cases m' with
      | succ m' => rw [rng_succ] at e; cases e
      | zero =>
      rcases hc with ⟨hG, ht, h0, h1⟩ | ⟨pre, z, m2, rfl, hpre, hz, hm2, ht, h0, h1⟩
      · exfalso
        have : w < ((0 : Nat) : Int) := h1
        omega
      · refine ⟨z, atI_last, m2, k0, i + 1, ?_, by rw [List.length_append, List.length_singleton]; omega, by omega, by omega, by omega, ht, h0, h1⟩
        rw [Int.natCast_succ]
  · rintro ⟨F, r0, w0⟩ _ ⟨m0, k0, i, e, hF, hk, hr, hr0, ht, hw0, hw1⟩
    dsimp only at *
    cases k0 with
    | succ k0 => rw [rng_succ] at e; cases e
    | zero =>
      rw [lot_k0, List.append_nil] at ht
      rw [ht]
      exact qq
end L60

namespace L60
open PySem L2 Mir Num
/-! words of lots -/
theorem prime_ok {p : Int} (hp : Pm p) (p2 : p ≤ 997) {Q : Bool → Unit → Prop} (q : Q true ()) : (m_is_prime p ()).st Q := by
  unfold m_is_prime
  have := hp.1
  simp only [st_mb, st_mp, st_mi, st_mu, st_mc]
  refine between_ok ⟨fun c => ?_, fun _ => ?_⟩
  · simp at c; omega
  refine ⟨?_, ?_⟩
  · rw [b62_of (by decide) (by decide), b62_of (by split <;> omega) (by split <;> omega)]; rfl
  refine st_cmA (g := fun _ => true) (by rw [rng_length]; split <;> omega) (fun x hx => ?_) ?_
  · have hx := mem_rng.mp hx
    simp only [st_mb, st_mp, st_mc]
    refine ⟨modOk_of (by omega), ?_, trivial⟩
    have := hp.2 x hx.1 (by revert hx; split <;> omega)
    rw [decide_eq_false]
    · rfl
    · exact fun e => this (Int.dvd_of_emod_eq_zero e)
  · rw [allid]
    have : ((rng (2 : Int) ((if (32 : Int) < p then (32 : Int) else p) - 2).toNat).all fun _ => true) = true := by simp
    rw [this]
    exact q
def wd (j : Nat) (p n i : Int) : Int := if j = 0 then 1 else if j = 1 then n + 1 else val p i (digs p j n).reverse + 1
def wordL (j : Nat) (p n : Int) (h : Nat) : List Int := (rng 0 h).map (wd j p n)
theorem atI_word {j : Nat} {p n : Int} {h : Nat} {i : Int} (h0 : 0 ≤ i) (h1 : i < h) : atI (wordL j p n h) i = some (wd j p n i) := by
  unfold wordL
  rw [atI_get' h0 (by rw [List.length_map, rng_length]; omega), List.getElem?_map]
  have : (rng 0 h)[i.toNat]? = some i := by
    unfold rng
    rw [List.getElem?_map, List.getElem?_range (by omega)]
    simp
    omega
  rw [this]
  rfl
theorem repL_one {x : Int} {h : Nat} {f : Int → Int} (hf : ∀ i, f i = x) : repL [x] (h : Int) = (rng 0 h).map f := by
  unfold repL
  rw [Int.toNat_natCast]
  have : ∀ a : Int, (List.replicate h [x]).flatten = (rng a h).map f := by
    induction h with
    | zero => intro a; rfl
    | succ h ih => intro a; rw [List.replicate_succ, List.flatten_cons, rng_succ, List.map_cons, hf, ih (a + 1)]; rfl
  exact this 0
section
variable {a : C_Array} {d f m k j h q : Nat} {p : Int}
theorem code_ok (A : Ar a d f m k j h q p) (hj : 2 ≤ j) (hp : Pm p) (hpq : p < q) (hh : (h : Int) ≤ p) {Q : C_Code → Unit → Prop} (qq : ∀ c : C_Code, c.f_prime = p → c.f_length = h → c.f_symbols = j → Q c ()) : (m_Code p h j ()).st Q := by
  unfold m_Code m_check_prime
  have := A.q2
  have := A.j1
  have := A.h1
  obtain ⟨c, e, -⟩ := A.hd
  simp only [st_mb, st_mp, st_mi, st_mu, st_mbad]
  refine prime_ok hp (by omega) ⟨fun c => absurd c (by decide), fun _ => ?_⟩
  refine between_ok ⟨fun c => ?_, fun _ => ?_⟩
  · simp at c; omega
  refine between_ok ⟨fun c => ?_, fun _ => ?_⟩
  · simp at c; omega
  exact qq _ rfl rfl rfl
theorem head_code_ok (A : Ar a d f m k j h q p) (hj : 2 ≤ j) (e : a.f_prime = some p) (hp : Pm p) (hpq : p < q) (hh : (h : Int) ≤ p) {Q : Option C_Code → Unit → Prop} (qq : ∀ c : C_Code, c.f_prime = p → c.f_length = h → c.f_symbols = j → Q (some c) ()) : (m_head_code a ()).st Q := by
  unfold m_head_code
  simp only [st_mb, st_mp, st_mi, st_mu, st_mo, A.sy, A.he, e]
  refine ⟨fun _ => ⟨p, rfl, code_ok A hj hp hpq hh qq⟩, fun c => ?_⟩
  have := of_decide_eq_false c
  omega
theorem word_lot_ok (A : Ar a d f m k j h q p) {n : Int} (n0 : 0 ≤ n) (n1 : n < bin m k) {lot : Sq Int} (hl : lot.l = lotAt m k 0 n) {Q : Tu Int → Unit → Prop} (qq : Q ⟨wordL j p n h⟩ ()) : (m_word_of_lot a lot ()).st Q := by
  unfold m_word_of_lot
  have hh1 := A.h1
  have hh2 := A.h2
  have hj1 := A.j1
  simp only [st_mb, st_mp, st_mi, st_mc, A.sy, A.he]
  refine ⟨fun c => ?_, fun c => ?_⟩
  · have c := of_decide_eq_true c
    have c : j = 0 := by omega
    refine ⟨decide_eq_true ⟨by decide, by decide, by omega, by omega⟩, ?_⟩
    rw [repL_one (f := wd j p n) (fun i => by unfold wd; rw [if_pos c])]
    exact qq
  have c0 := of_decide_eq_false c
  rw [st_mu]
  refine number_ok' A n0 n1 hl ?_
  refine ⟨fun c => ?_, fun c => ?_⟩
  · have c := of_decide_eq_true c
    have c : j = 1 := by omega
    refine ⟨decide_eq_true ⟨Nat.succ_pos _, show 1 ≤ 1000 by decide, by omega, by omega⟩, ?_⟩
    rw [repL_one (f := wd j p n) (fun i => by unfold wd; rw [if_neg (by omega), if_pos c])]
    exact qq
  have c1 := of_decide_eq_false c
  rcases A.cs with ⟨e, _⟩ | ⟨e, _⟩ | ⟨hj, e, hp, hpq, hh, hb⟩
  · omega
  · omega
  simp only [st_mb, st_mp, st_mu, st_mo, e]
  have hq2 := A.q2
  refine head_code_ok A hj e hp hpq hh fun c e1 e2 e3 => ⟨c, rfl, p, rfl, ?_⟩
  refine figures_ok hp.pos (by omega) (by omega) ?_
  refine word_ok (h := h) (by rw [e1]; exact hp.pos) (by omega) e2 (by omega) ?_
  rw [e1]
  refine st_cmA (g := fun x => x + 1) (by rw [List.length_map, rng_length]; omega) (fun x hx => st_mp.mpr ⟨rfl, rfl⟩) ?_
  rw [List.map_map]
  have : (fun x : Int => x + 1) ∘ (fun y => val p y (digs p j n).reverse) = wd j p n := funext fun i => by unfold wd; rw [if_neg (by omega), if_neg (by omega)]; rfl
  rw [this]
  exact qq
theorem head_word_ok (A : Ar a d f m k j h q p) {n : Int} (n0 : 0 ≤ n) (n1 : n < bin m k) {t : Bool} {Q : Tu Int → Unit → Prop} (qq : Q ⟨wordL j p n h⟩ ()) : (m_head_word a ⟨t, lotAt m k 0 n⟩ ()).st Q := by
  unfold m_head_word
  simp only [st_mb, st_mu]
  exact check_lot_ok A n0 n1 (word_lot_ok A n0 n1 rfl qq)
theorem wd_in (A : Ar a d f m k j h q p) {n : Int} (n0 : 0 ≤ n) (n1 : n < bin m k) (i : Int) : 1 ≤ wd j p n i ∧ wd j p n i < q := by
  unfold wd
  have := A.q1
  rcases A.cs with ⟨e, _⟩ | ⟨e, e2⟩ | ⟨hj, e, hp, hpq, hh, hb⟩
  · rw [if_pos e]; omega
  · rw [if_neg (by omega), if_pos e]; omega
  · rw [if_neg (by omega), if_neg (by omega)]
    have := val_in (x := i) hp.pos (cs := (digs p j n).reverse)
    omega
/-! views -/
structure Vw (hs : List Int) (c : Int → Int) (h q : Nat) : Prop where
  s : Srt hs
  i : ∀ x ∈ hs, 0 ≤ x ∧ x < h
  c : ∀ x ∈ hs, 0 ≤ c x ∧ c x < q
theorem srt_len : ∀ {l : List Int} {x y : Int}, Srt l → (∀ z ∈ l, x ≤ z ∧ z < y) → l.length ≤ (y - x).toNat
  | [], _, _, _, _ => Nat.zero_le _
  | z :: l, x, y, s, hi => by
    have h1 := hi z (List.mem_cons_self ..)
    have := srt_len (l := l) (x := z + 1) (y := y) (List.pairwise_cons.mp s).2 fun w hw => ⟨by have := (List.pairwise_cons.mp s).1 w hw; omega, (hi w (List.mem_cons_of_mem _ hw)).2⟩
    rw [List.length_cons]
    omega
theorem Vw.len {hs : List Int} {c : Int → Int} (V : Vw hs c h q) : hs.length ≤ h := by
  have := srt_len V.s V.i
  omega
theorem view_ok (A : Ar a d f m k j h q p) {hs : List Int} {c : Int → Int} (V : Vw hs c h q) {t : Bool} {Q : Bool → Unit → Prop} (qq : Q true ()) : (m_is_view a ⟨t, mk hs c⟩ ()).st Q := by
  unfold m_is_view m_are_heads m_is_list__P m_is_tuple_of
  have hl := V.len
  have := A.h2
  simp only [st_mb, st_mp, st_mi, st_mu]
  have all1 : ∀ l : List Int, ((l.map fun _ => true).all id) = true := fun l => by simp
  have all2 : ∀ l : List (Int × Int), ((l.map fun _ => true).all id) = true := fun l => by simp
  refine ⟨fun c => absurd c (by decide), fun _ => ?_⟩
  refine st_cmA (g := fun _ => true) (by rw [mk_len]; omega) (fun x hx => ?_) ?_
  · simp only [st_mu, st_mb, st_mp]
    exact ⟨rfl, trivial⟩
  rw [all2]
  refine ⟨fun c => absurd c (by decide), fun _ => ?_⟩
  refine st_cmA (g := fun x => x.1) (by rw [mk_len]; omega) (fun x hx => st_mp.mpr ⟨rfl, rfl⟩) ?_
  rw [mk_fst]
  refine st_cmA (g := fun _ => true) (by omega) (fun x hx => ?_) ?_
  · have := V.i x hx
    rw [st_mu]
    exact between_ok ⟨by simp [A.he]; omega, rfl⟩
  rw [all1]
  refine ⟨fun c => absurd c (by decide), fun _ => ?_⟩
  refine rising_ok V.s (by omega) ?_
  refine ⟨fun c => absurd c (by decide), fun _ => ?_⟩
  refine st_cmA (g := fun _ => true) (by rw [mk_len]; omega) (fun x hx => ?_) ?_
  · have hx := mk_mem.mp hx
    have := V.c x.1 hx.1
    rw [st_mu]
    exact between_ok ⟨by simp [A.co]; omega, rfl⟩
  rw [all2]
  exact qq
theorem check_view_ok (A : Ar a d f m k j h q p) {hs : List Int} {c : Int → Int} (V : Vw hs c h q) {t : Bool} {Q : Unit → Unit → Prop} (qq : Q () ()) : (m_check_view a ⟨t, mk hs c⟩ ()).st Q := by
  unfold m_check_view
  simp only [st_mb, st_mp, st_mi, st_mu, st_mbad]
  exact view_ok A V ⟨fun c => absurd c (by decide), fun _ => qq⟩
theorem check_long_ok (A : Ar a d f m k j h q p) {hs : List Int} {c : Int → Int} (V : Vw hs c h q) (hl : j + 1 ≤ hs.length) {t : Bool} {Q : Unit → Unit → Prop} (qq : Q () ()) : (m_check_long_view a ⟨t, mk hs c⟩ ()).st Q := by
  unfold m_check_long_view
  simp only [st_mb, st_mp, st_mi, st_mu, st_mbad, A.sy]
  refine check_view_ok A V ⟨fun c => ?_, fun _ => qq⟩
  have c := of_decide_eq_true c
  rw [mk_len] at c
  omega
/-- the lot that right heads tell -/
theorem lot_told_ok (A : Ar a d f m k j h q p) {n : Int} (n0 : 0 ≤ n) (n1 : n < bin m k) {hs : List Int} {c : Int → Int} (V : Vw hs c h q) (hl : j + 1 = hs.length) (hr : ∀ i ∈ hs.take j, c i = wd j p n i) {t : Bool} {Q : List Int → Unit → Prop} (qq : Q (lotAt m k 0 n) ()) : (m_lot_told_by a ⟨t, mk hs c⟩ ()).st Q := by
  unfold m_lot_told_by
  have hj1 := A.j1
  have hq2 := A.q2
  have hbp : 0 < bin m k := bin_pos A.km
  simp only [st_mb, st_mp, st_mi, st_mc, A.sy, st_mu, st_mo, A.lt]
  refine ⟨fun g => ?_, fun g => ?_⟩
  · have g := of_decide_eq_true g
    rcases A.cs with ⟨e, e1⟩ | ⟨e, e1⟩ | ⟨hj, e, hp, hpq, hh, hb⟩
    · rw [show n = 0 by omega] at qq
      exact lot_from_ok A (Int.le_refl _) (by omega) qq
    · omega
    · omega
  have g := of_decide_eq_false g
  refine ⟨fun g => ?_, fun g => ?_⟩
  · have g := of_decide_eq_true g
    match hs, hl with
    | [], hl => simp at hl
    | x :: hs, hl =>
    have hx : c x = wd j p n x := hr x (by rw [show j = 1 by omega]; simp)
    refine ⟨(x, c x), by rw [atI_get' (by decide) (by rw [mk_len, List.length_cons]; omega)]; rfl, modOk_of (by omega), ?_⟩
    have e : (c x - 1) % (bin m k : Int) = n := by
      rw [hx]
      unfold wd
      rw [if_neg (by omega), if_pos (by omega), show n + 1 - 1 = n by omega, Int.emod_eq_of_lt n0 n1]
    rw [e]
    exact lot_from_ok A n0 n1 qq
  have g1 := of_decide_eq_false g
  rcases A.cs with ⟨e, e1⟩ | ⟨e, e1⟩ | ⟨hj, e, hp, hpq, hh, hb⟩
  · omega
  · omega
  have p0 := hp.pos
  have hvl := V.len
  have hh2 := A.h2
  refine st_cmA (g := fun b => (b.1, (b.2 - 1) % p)) (by rw [mk_len]; omega) (fun b hb => ?_) ?_
  · simp only [st_mb, st_mp, st_mc, st_mo, e]
    exact ⟨p, rfl, modOk_of p0, rfl, trivial⟩
  refine head_code_ok A hj e hp hpq hh fun cd e1 e2 e3 => ⟨cd, rfl, ?_⟩
  have hfst : (((mk hs c).map fun b => (b.1, (b.2 - 1) % p)).map fun b => b.1) = hs := by
    rw [List.map_map]
    exact mk_fst
  refine data_ok (j := j) (by rw [e1]; exact hp) (by omega) e3 (by rw [List.length_map, mk_len]; omega) (by rw [List.length_map, mk_len]; omega) (fun b hb => ?_) (by rw [hfst]; exact V.s.nodup) fun F hF1 hF2 hF3 => ?_
  · obtain ⟨b', hb', rfl⟩ := List.mem_map.mp hb
    have := V.i b'.1 (mk_mem.mp hb').1
    rw [e1]
    exact ⟨this.1, by dsimp only; omega, Int.emod_nonneg _ (by omega), Int.emod_lt_of_pos _ p0⟩
  rw [e1] at hF2 hF3
  have hD : F = (digs p j n).reverse := by
    have hdl : (digs p j n).reverse.length = j := by rw [List.length_reverse, digs_len]
    refine one_only hp (xs := hs.take j) (hF1.trans hdl.symm) (by rw [hF1, List.length_take]; omega) ?_ hF2 (fun x hx => digs_in p0 x (List.mem_reverse.mp hx)) fun x hx => ?_
    · refine ((V.s.take j).imp_of_mem fun {y z} hy hz hyz cg => ?_)
      have iy := V.i y (List.mem_of_mem_take hy)
      have iz := V.i z (List.mem_of_mem_take hz)
      have := cg.eq iy.1 (by omega) iz.1 (by omega)
      omega
    · have hm : (x, (c x - 1) % p) ∈ ((mk hs c).map fun b => (b.1, (b.2 - 1) % p)).take j := by
        rw [← List.map_take, mk_take]
        exact List.mem_map.mpr ⟨(x, c x), mk_mem.mpr ⟨hx, rfl⟩, rfl⟩
      have h1 := hF3 _ hm
      dsimp only at h1
      have h2 : c x - 1 = val p x (digs p j n).reverse := by
        rw [hr x hx]
        unfold wd
        rw [if_neg (by omega), if_neg (by omega)]
        omega
      rw [h2, val_ev] at h1
      exact h1.trans (Cg.emod.trans Cg.emod)
  refine ⟨p, e, number_ok p0 (by omega) (by show F.length ≤ 64; omega) hF2 ?_⟩
  show _ ∧ _
  rw [hD, List.reverse_reverse, ev_digs p0 n0 (by omega), Int.emod_eq_of_lt n0 n1]
  exact ⟨modOk_of (by omega), lot_from_ok A n0 n1 qq⟩
/-- .. and a view tells it, or none -/
def dueV (j : Nat) (hs : List Int) (c : Int → Int) : Bool := decide (j + 1 ≤ nz hs c)
theorem told_by_ok (A : Ar a d f m k j h q p) {n : Int} (n0 : 0 ≤ n) (n1 : n < bin m k) {hs : List Int} {c : Int → Int} (V : Vw hs c h q) {tt : Int} (C : Cut hs c (wd j p n) tt) (hl : j + 1 ≤ hs.length) {t : Bool} {Q : Option (List Int) → Unit → Prop} (qq : Q (if dueV j hs c = true then some (lotAt m k 0 n) else none) ()) : (m_told_by a ⟨t, mk hs c⟩ ()).st Q := by
  unfold m_told_by
  have hvl := V.len
  have hh2 := A.h2
  simp only [st_mb, st_mp, st_mi, A.sy, st_mu]
  have e1 : cutL (mk hs c) none (some ((j : Int) + 1)) = mk (hs.take (j + 1)) c := by
    rw [cutL_to (by omega), show ((j : Int) + 1).toNat = j + 1 by omega, mk_take]
  rw [e1]
  have hw : ∀ i ∈ hs, wd j p n i ≠ 0 := fun i _ => by have := wd_in A n0 n1 i; omega
  have hf := C.first V.s hw hl
  refine st_cmA (g := fun b => decide (b.2 = 0)) (by rw [mk_len, List.length_take]; omega) (fun b hb => st_mp.mpr ⟨rfl, rfl⟩) ?_
  rw [anyid]
  refine ⟨fun g => ?_, fun g => ?_⟩
  · obtain ⟨b, hb, hb2⟩ := List.any_eq_true.mp g
    have hb := mk_mem.mp hb
    have hb2 : b.2 = 0 := of_decide_eq_true hb2
    have : ¬ j + 1 ≤ nz hs c := fun g => (hf.mpr g) b.1 hb.1 (hb.2 ▸ hb2)
    unfold dueV at qq
    rw [decide_eq_false this] at qq
    exact qq
  · have hall : ∀ i ∈ hs.take (j + 1), c i ≠ 0 := fun i hi e => by
      have := List.any_eq_false.mp g (i, c i) (mk_mem.mpr ⟨hi, rfl⟩)
      exact this (decide_eq_true e)
    have hd := hf.mp hall
    unfold dueV at qq
    rw [decide_eq_true hd] at qq
    refine lot_told_ok A n0 n1 (t := t) (hs := hs.take (j + 1)) ⟨V.s.take _, fun x hx => V.i x (List.mem_of_mem_take hx), fun x hx => V.c x (List.mem_of_mem_take hx)⟩ (by rw [List.length_take]; omega) (fun i hi => ?_) qq
    rw [List.take_take, Nat.min_eq_left (by omega)] at hi
    exact C.right V.s hl hall i hi
theorem told_ok (A : Ar a d f m k j h q p) {n : Int} (n0 : 0 ≤ n) (n1 : n < bin m k) {hs : List Int} {c : Int → Int} (V : Vw hs c h q) {tt : Int} (C : Cut hs c (wd j p n) tt) (hl : j + 1 ≤ hs.length) {t : Bool} {Q : Option (List Int) → Unit → Prop} (qq : Q (if dueV j hs c = true then some (lotAt m k 0 n) else none) ()) : (m_told a ⟨t, mk hs c⟩ ()).st Q := by
  unfold m_told
  simp only [st_mb, st_mu]
  exact check_long_ok A V hl (told_by_ok A n0 n1 V C hl qq)
/-- a cut leaves it -/
theorem left_ok (A : Ar a d f m k j h q p) {n : Int} (n0 : 0 ≤ n) (n1 : n < bin m k) {hs : List Int} {c : Int → Int} (V : Vw hs c h q) {tt : Int} (C : Cut hs c (wd j p n) tt) {t t2 : Bool} {Q : Bool → Unit → Prop} (qq : Q true ()) : (m_can_be_left a ⟨t, mk hs c⟩ ⟨t2, lotAt m k 0 n⟩ ()).st Q := by
  unfold m_can_be_left
  have hvl := V.len
  have hh2 := A.h2
  simp only [st_mb, st_mp, st_mi, st_mu, st_mc, st_mo]
  refine check_view_ok A V (check_lot_ok A n0 n1 (word_lot_ok A n0 n1 rfl ⟨b62_of (by omega) (by rw [mk_len]; omega), ?_⟩))
  have get : ∀ i : Int, 0 ≤ i → i < (mk hs c).length → ∃ x, hs[i.toNat]? = some x ∧ x ∈ hs ∧ atI (mk hs c) i = some (x, c x) := fun i h0 h1 => by
    rw [mk_len] at h1
    have h2 : i.toNat < hs.length := by omega
    refine ⟨hs[i.toNat], List.getElem?_eq_getElem h2, List.getElem_mem h2, ?_⟩
    rw [atI_get' h0 (by rw [mk_len]; omega)]
    unfold mk
    rw [List.getElem?_map, List.getElem?_eq_getElem h2]
    rfl
  refine st_cmP (p := fun i => match hs[i.toNat]? with | some x => !decide (c x = wd j p n x) | none => false) (g := fun i => i) (by rw [rng_length, mk_len]; omega) (fun i hi => ?_) (fun i hi _ => st_mp.mpr ⟨rfl, rfl⟩) ?_
  · have hi := mem_rng.mp hi
    obtain ⟨x, e1, e2, e3⟩ := get i hi.1 (by omega)
    have hxi := V.i x e2
    simp only [st_mb, st_mp, st_mo]
    refine ⟨_, e3, _, e3, _, atI_word hxi.1 hxi.2, ?_, trivial⟩
    rw [e1]
  · rw [List.map_id']
    generalize hW : (rng 0 ((mk hs c).length : Int).toNat).filter (fun i => match hs[i.toNat]? with | some x => !decide (c x = wd j p n x) | none => false) = W
    refine ⟨fun _ => qq, fun g => ?_⟩
    cases W with
    | nil => cases g
    | cons i0 W =>
    have hm : i0 ∈ (rng 0 ((mk hs c).length : Int).toNat).filter (fun i => match hs[i.toNat]? with | some x => !decide (c x = wd j p n x) | none => false) := by rw [hW]; exact List.mem_cons_self ..
    obtain ⟨hm1, hm2⟩ := List.mem_filter.mp hm
    have hi := mem_rng.mp hm1
    obtain ⟨x, e1, e2, e3⟩ := get i0 hi.1 (by omega)
    rw [e1] at hm2
    have hwr : c x ≠ wd j p n x := by simpa using hm2
    refine ⟨i0, by rw [atI_get' (by decide) (by rw [List.length_cons]; omega)]; rfl, ?_⟩
    rw [cutL_from (by omega)]
    refine st_cmA (g := fun b => decide (b.2 = 0)) (by rw [List.length_drop, mk_len]; omega) (fun b hb => st_mp.mpr ⟨rfl, rfl⟩) ?_
    rw [allid]
    have : (((mk hs c).drop (i0 + 1).toNat).all fun b => decide (b.2 = 0)) = true := by
      rw [List.all_eq_true]
      intro b hb
      obtain ⟨y, hy, rfl⟩ : ∃ y ∈ hs.drop (i0 + 1).toNat, (y, c y) = b := by
        unfold mk at hb
        rw [← List.map_drop] at hb
        exact List.mem_map.mp hb
      obtain ⟨z, hz, hz2⟩ := List.getElem_of_mem hy
      rw [List.getElem_drop] at hz2
      have hz0 : (i0 + 1).toNat + z < hs.length := by rw [List.length_drop] at hz; omega
      have hx2 : hs[i0.toNat]'(by rw [mk_len] at hi; omega) = x := by
        have := e1
        rw [List.getElem?_eq_getElem (by rw [mk_len] at hi; omega)] at this
        exact Option.some.inj this
      have hlt : x < y := by
        rw [← hx2, ← hz2]
        exact List.pairwise_iff_getElem.mp V.s _ _ (by rw [mk_len] at hi; omega) hz0 (by omega)
      have h1 := C x e2
      have h2 := C y (List.mem_of_mem_drop hy)
      refine decide_eq_true (h2.2 ?_)
      by_cases q2 : x < tt
      · exact absurd (h1.1 q2) hwr
      · omega
    rw [this]
    exact qq
/-- what is written -/
theorem mending_ok (A : Ar a d f m k j h q p) {n : Int} (n0 : 0 ≤ n) (n1 : n < bin m k) {hs : List Int} {c : Int → Int} (V : Vw hs c h q) {tt : Int} (C : Cut hs c (wd j p n) tt) (hl : j + 1 ≤ hs.length) {t : Bool} {Q : List (Int × Int) → Unit → Prop} (qq : Q (mk (wr hs c (wd j p n) (dueV j hs c)) (wto (wd j p n) (dueV j hs c))) ()) : (m_mending a ⟨t, mk hs c⟩ ()).st Q := by
  unfold m_mending m_mending_by
  have hvl := V.len
  have hh2 := A.h2
  simp only [st_mb, st_mu, st_mp, st_mi, st_mo]
  refine check_long_ok A V hl (told_by_ok A n0 n1 V C hl ⟨fun g => ?_, fun g => ?_⟩)
  · have hd : dueV j hs c = false := by
      cases e : dueV j hs c with
      | false => rfl
      | true => rw [e] at g; exact absurd g (by simp)
    rw [hd] at qq
    refine st_cmF (p := fun b => !decide (b.2 = 0)) (g := fun b => (b.1, 0)) (by rw [List.length_reverse, mk_len]; omega) (fun b hb => st_mp.mpr ⟨rfl, rfl⟩) (fun b hb _ => st_mp.mpr ⟨rfl, rfl⟩) ?_
    have : ((mk hs c).reverse.filter (fun b => !decide (b.2 = 0))).map (fun b => (b.1, (0 : Int))) = mk (wr hs c (wd j p n) false) (wto (wd j p n) false) := by
      rw [show (mk hs c).reverse = mk hs.reverse c from (List.map_reverse ..).symm, mk_filter, mk_map]
      rfl
    rw [this]
    exact qq
  · have hd : dueV j hs c = true := by
      cases e : dueV j hs c with
      | true => rfl
      | false => rw [e] at g; exact absurd g (by simp)
    rw [hd] at qq ⊢
    refine ⟨_, rfl, word_lot_ok A n0 n1 rfl ?_⟩
    refine st_cmF (p := fun b => !decide (b.2 = wd j p n b.1)) (g := fun b => (b.1, wd j p n b.1)) (by rw [mk_len]; omega) (fun b hb => ?_) (fun b hb _ => ?_) ?_
    · have hb := V.i b.1 (mk_mem.mp hb).1
      simp only [st_mb, st_mp, st_mo]
      exact ⟨_, atI_word hb.1 hb.2, rfl, trivial⟩
    · have hb := V.i b.1 (mk_mem.mp hb).1
      simp only [st_mb, st_mp, st_mo]
      exact ⟨_, atI_word hb.1 hb.2, rfl, trivial⟩
    · rw [mk_filter, mk_map]
      exact qq
end
end L60

namespace L60
open PySem L2 Mir Num
/-! the box -/
section
variable {K : PySem.W.Frag} {s : Sto K} {r : Ref} {n : Int}
theorem take_b {many : Int} (h : Bx s r n) (hn : n ≤ 1000000) (h1 : 0 < many) (h2 : many ≤ 1000000000) {Q : Int → Sto K → Prop} (q : ∀ x s', 0 ≤ x → x < many → Bx s' r (n + 1) → Only r s s' → Q x s') : (m__law_take r many s).st Q := by
  obtain ⟨g, f, m, c, h, g0, m0, m1, c0, c1⟩ := h
  have a0 : atI [Py.int g, .bl f, .int m, .int c] 0 = some (Py.int g) := rfl
  have a1 : atI [Py.int g, .bl f, .int m, .int c] 1 = some (Py.bl f) := rfl
  have a2 : ∀ c, atI [Py.int g, .bl f, .int m, .int c] 2 = some (Py.int m) := fun _ => rfl
  have a3 : ∀ c, atI [Py.int g, .bl f, .int m, .int c] 3 = some (Py.int c) := fun _ => rfl
  have di : ∀ x, PyT.dec (α := Int) (.int x) = some x := fun _ => rfl
  have db : ∀ x, PyT.dec (α := Bool) (.bl x) = some x := fun _ => rfl
  have i0 : ixN (List.length [Py.int g, .bl f, .int m, .int c]) 0 = some 0 := rfl
  have i3 : ixN (List.length [Py.int g, .bl f, .int m, .int c]) 3 = some 3 := rfl
  have ps : ∀ o : Ob, (s.put r.a o).f r.a = some o := fun o => Sto.put_same
  have eo : ∀ o : Ob, Only r s (s.put r.a o) := fun o b e => Sto.put_ne e
  unfold m__law_take
  simp only [st_mb, st_mp, st_mc, st_mi, st_mo, st_mldL, st_mput, h, Option.some.injEq, Ob.lst.injEq, exists_eq_left', a0, a1, a2, a3, Option.bind_some, di, db, i0, i3, ps, List.set, PyT.enc]
  refine ⟨fun _ => ⟨fun _ => ?_, fun _ => ?_⟩, fun _ => ⟨fun e => absurd e (by decide), fun _ => ?_⟩⟩
  · refine ⟨modOk_of h1, divOk_of h1 (by omega), ?_⟩
    exact q _ _ (Int.emod_nonneg _ (by omega)) (Int.emod_lt_of_pos _ h1) ⟨_, _, _, _, ps _, Int.ediv_nonneg g0 (by omega), m0, m1, c0, by omega⟩ (eo _)
  all_goals
    refine ⟨powOk_of (by omega) (by decide) (by decide), powOk_of ?_ (by decide) (by decide), modOk_of h1, ?_⟩
    · have b1 := Int.emod_nonneg ((m + 15485863 * (c + 1) + 179424673) ^ Int.toNat 5) (show (2147483647 : Int) ≠ 0 by decide)
      have b2 := Int.emod_lt_of_pos ((m + 15485863 * (c + 1) + 179424673) ^ Int.toNat 5) (show (0 : Int) < 2147483647 by decide)
      generalize (m + 15485863 * (c + 1) + 179424673) ^ Int.toNat 5 % 2147483647 = X at *
      omega
    · exact q _ _ (Int.emod_nonneg _ (by omega)) (Int.emod_lt_of_pos _ h1) ⟨_, _, _, _, ps _, g0, m0, m1, by omega, by omega⟩ (eo _)
theorem box_ok {great : Int} {Q : Ref → Sto K → Prop} (q : ∀ r s', Bx s' r 0 → Q r s') : (m__law_box great s).st Q := by
  unfold m__law_box
  simp only [st_mb, st_mp, st_mnew]
  intro a ha
  refine q ⟨a⟩ _ ⟨_, _, _, _, Sto.put_same, ?_, Int.emod_nonneg _ (by decide), ?_, Int.le_refl _, Int.le_refl _⟩
  · split <;> omega
  · have := Int.emod_lt_of_pos (if great < 0 then -great else great) (show (0 : Int) < 2147483629 by decide)
    omega
end
/-! the menu -/
def okA (r : R Unit C_Array) (x : C_Array) : Bool := match r with
  | .ok y _ => decide (y.f_disks = x.f_disks ∧ y.f_lost = x.f_lost ∧ y.f_records = x.f_records ∧ y.f_changes = x.f_changes ∧ y.f_contents = x.f_contents ∧ y.f_need = x.f_need ∧ y.f_lots = x.f_lots ∧ y.f_symbols = x.f_symbols ∧ y.f_prime = x.f_prime ∧ y.f_heads = x.f_heads)
  | _ => false
theorem of_okA {r : R Unit C_Array} {x : C_Array} {Q : C_Array → Unit → Prop} (h : okA r x = true) (q : Q x ()) : r.st Q := by
  cases r with
  | ok y s =>
    obtain ⟨h1, h2, h3, h4, h5, h6, h7, h8, h9, h10⟩ := of_decide_eq_true h
    cases y
    cases x
    cases h1; cases h2; cases h3; cases h4; cases h5; cases h6; cases h7; cases h8; cases h9; cases h10
    exact ⟨q⟩
  | bad => cases h
  | exc => cases h
  | all => cases h
abbrev Nm := T5 Int Int Int Int Int
abbrev Sz := T5 Int Int Int (Option Int) Int
def menu : List Nm := [(T5.mk (3 : Int) (1 : Int) (2 : Int) (1 : Int) (5 : Int)), (T5.mk (2 : Int) (1 : Int) (2 : Int) (1 : Int) (5 : Int)), (T5.mk (4 : Int) (1 : Int) (6 : Int) (3 : Int) (13 : Int)), (T5.mk (3 : Int) (1 : Int) (2 : Int) (2 : Int) (5 : Int)), (T5.mk (5 : Int) (2 : Int) (5 : Int) (2 : Int) (11 : Int)), (T5.mk (1 : Int) (0 : Int) (6 : Int) (3 : Int) (13 : Int)), (T5.mk (2 : Int) (1 : Int) (6 : Int) (3 : Int) (13 : Int)), (T5.mk (6 : Int) (2 : Int) (8 : Int) (4 : Int) (13 : Int)), (T5.mk (4 : Int) (2 : Int) (12 : Int) (6 : Int) (17 : Int)), (T5.mk (12 : Int) (2 : Int) (24 : Int) (6 : Int) (13 : Int)), (T5.mk (5 : Int) (3 : Int) (4 : Int) (2 : Int) (7 : Int)), (T5.mk (4 : Int) (3 : Int) (2 : Int) (1 : Int) (5 : Int))]
/-- of an array: what it is, what the law makes of it -/
structure Ent (t : Nm) (a : C_Array) (z : Sz) (d f m k j h q : Nat) (p : Int) : Prop where
  A : Ar a d f m k j h q p
  et : t = ⟨(d + f : Nat), f, m, k, q⟩
  ez : z = ⟨d, bin m k, j, if 1 < j then some p else none, h⟩
  fa : okA (m_Array t.a t.b t.c t.d t.e ()) a = true
  fz : okv (m__law_sizes t.a t.b t.c t.d t.e ()) z = true
theorem pm11 : Pm 11 := ⟨by decide, fun d h1 h2 h3 => by
  have : d = 2 ∨ d = 3 ∨ d = 4 ∨ d = 5 ∨ d = 6 ∨ d = 7 ∨ d = 8 ∨ d = 9 ∨ d = 10 := by omega
  rcases this with e | e | e | e | e | e | e | e | e <;> subst e <;> omega⟩
theorem pm13 : Pm 13 := ⟨by decide, fun d h1 h2 h3 => by
  have : d = 2 ∨ d = 3 ∨ d = 4 ∨ d = 5 ∨ d = 6 ∨ d = 7 ∨ d = 8 ∨ d = 9 ∨ d = 10 ∨ d = 11 ∨ d = 12 := by omega
  rcases this with e | e | e | e | e | e | e | e | e | e | e <;> subst e <;> omega⟩
theorem ent_few {d f m k j h q : Nat} {c : Nat} (g : (j = 0 ∧ bin m k = 1) ∨ (j = 1 ∧ bin m k < q)) (g2 : (1 ≤ d ∧ d + f ≤ 12 ∧ 1 ≤ k ∧ k ≤ m ∧ m ≤ 24 ∧ 2 ≤ q ∧ q ≤ 997) ∧ 2 ≤ h ∧ h ≤ 997 ∧ h = (j + 1) + f * c ∧ j + 1 ≤ d * c) (hA : okA (m_Array (d + f : Nat) f m k q ()) ⟨(d + f : Nat), f, m, k, q, d, bin m k, j, none, h⟩ = true) (hz : okv (m__law_sizes (d + f : Nat) f m k q ()) ⟨d, bin m k, j, none, h⟩ = true) : ∃ a z d' f' m' k' j' h' q' p', Ent ⟨(d + f : Nat), f, m, k, q⟩ a z d' f' m' k' j' h' q' p' := by
  obtain ⟨⟨e1, e2, e3, e4, e5, e6, e7⟩, e8, e9, e10, e11⟩ := g2
  exact ⟨_, _, d, f, m, k, j, h, q, 2, ⟨rfl, rfl, rfl, rfl, rfl, rfl, rfl, rfl, e1, e2, e3, e4, e5, e6, e7, e8, e9, by omega, ⟨c, e10, e11⟩, g.elim .inl fun g => .inr (.inl g)⟩, rfl, by rw [if_neg (by omega)], hA, hz⟩

theorem ent_big {d f m k j h q : Nat} {p : Int} {c : Nat} (g : 2 ≤ j ∧ j ≤ 24) (g1 : Pm p) (g3 : p < q ∧ (h : Int) ≤ p ∧ (bin m k : Int) ≤ p ^ j) (g2 : (1 ≤ d ∧ d + f ≤ 12 ∧ 1 ≤ k ∧ k ≤ m ∧ m ≤ 24 ∧ 2 ≤ q ∧ q ≤ 997) ∧ 2 ≤ h ∧ h ≤ 997 ∧ h = (j + 1) + f * c ∧ j + 1 ≤ d * c) (hA : okA (m_Array (d + f : Nat) f m k q ()) ⟨(d + f : Nat), f, m, k, q, d, bin m k, j, some p, h⟩ = true) (hz : okv (m__law_sizes (d + f : Nat) f m k q ()) ⟨d, bin m k, j, some p, h⟩ = true) : ∃ a z d' f' m' k' j' h' q' p', Ent ⟨(d + f : Nat), f, m, k, q⟩ a z d' f' m' k' j' h' q' p' := by
  obtain ⟨⟨e1, e2, e3, e4, e5, e6, e7⟩, e8, e9, e10, e11⟩ := g2
  exact ⟨_, _, d, f, m, k, j, h, q, p, ⟨rfl, rfl, rfl, rfl, rfl, rfl, rfl, rfl, e1, e2, e3, e4, e5, e6, e7, e8, e9, by omega, ⟨c, e10, e11⟩, .inr (.inr ⟨g.1, rfl, g1, g3.1, g3.2.1, g3.2.2⟩)⟩, rfl, by rw [if_pos (by omega)], hA, hz⟩
theorem ent_ok {t : Nm} (h : t ∈ menu) : ∃ a z d f m k j h q p, Ent t a z d f m k j h q p := by
  unfold menu at h
  simp only [List.mem_cons, List.not_mem_nil, or_false] at h
  rcases h with rfl | rfl | rfl | rfl | rfl | rfl | rfl | rfl | rfl | rfl | rfl | rfl
  · exact ent_few (d := 2) (f := 1) (m := 2) (k := 1) (j := 1) (h := 3) (q := 5) (c := 1) (by decide +kernel) (by decide +kernel) (by decide +kernel) (by decide +kernel)
  · exact ent_few (d := 1) (f := 1) (m := 2) (k := 1) (j := 1) (h := 4) (q := 5) (c := 2) (by decide +kernel) (by decide +kernel) (by decide +kernel) (by decide +kernel)
  · exact ent_big (d := 3) (f := 1) (m := 6) (k := 3) (j := 2) (h := 4) (q := 13) (p := 11) (c := 1) (by decide +kernel) pm11 (by decide +kernel) (by decide +kernel) (by decide +kernel) (by decide +kernel)
  · exact ent_few (d := 2) (f := 1) (m := 2) (k := 2) (j := 0) (h := 2) (q := 5) (c := 1) (by decide +kernel) (by decide +kernel) (by decide +kernel) (by decide +kernel)
  · exact ent_few (d := 3) (f := 2) (m := 5) (k := 2) (j := 1) (h := 4) (q := 11) (c := 1) (by decide +kernel) (by decide +kernel) (by decide +kernel) (by decide +kernel)
  · exact ent_big (d := 1) (f := 0) (m := 6) (k := 3) (j := 2) (h := 3) (q := 13) (p := 11) (c := 3) (by decide +kernel) pm11 (by decide +kernel) (by decide +kernel) (by decide +kernel) (by decide +kernel)
  · exact ent_big (d := 1) (f := 1) (m := 6) (k := 3) (j := 2) (h := 6) (q := 13) (p := 11) (c := 3) (by decide +kernel) pm11 (by decide +kernel) (by decide +kernel) (by decide +kernel) (by decide +kernel)
  · exact ent_big (d := 4) (f := 2) (m := 8) (k := 4) (j := 2) (h := 5) (q := 13) (p := 11) (c := 1) (by decide +kernel) pm11 (by decide +kernel) (by decide +kernel) (by decide +kernel) (by decide +kernel)
  · exact ent_big (d := 2) (f := 2) (m := 12) (k := 6) (j := 3) (h := 8) (q := 17) (p := 13) (c := 2) (by decide +kernel) pm13 (by decide +kernel) (by decide +kernel) (by decide +kernel) (by decide +kernel)
  · exact ent_big (d := 10) (f := 2) (m := 24) (k := 6) (j := 5) (h := 8) (q := 13) (p := 11) (c := 1) (by decide +kernel) pm11 (by decide +kernel) (by decide +kernel) (by decide +kernel) (by decide +kernel)
  · exact ent_few (d := 2) (f := 3) (m := 4) (k := 2) (j := 1) (h := 5) (q := 7) (c := 1) (by decide +kernel) (by decide +kernel) (by decide +kernel) (by decide +kernel)
  · exact ent_few (d := 1) (f := 3) (m := 2) (k := 1) (j := 1) (h := 8) (q := 5) (c := 2) (by decide +kernel) (by decide +kernel) (by decide +kernel) (by decide +kernel)
theorem drawn_ok {K : PySem.W.Frag} {s : Sto K} {r : Ref} {n : Int} (B : Bx s r n) (hn : n ≤ 1000000) {Q : Nm × Sz → Sto K → Prop} (qq : ∀ t a z d f m k j h q p s', Ent t a z d f m k j h q p → Bx s' r (n + 1) → Only r s s' → Q (t, z) s') : (m__law_drawn r s).st Q := by
  unfold m__law_drawn
  simp only [st_mb, st_mp, st_mc, st_mo, st_mu]
  refine ⟨by decide, take_b B hn (by decide) (by decide) fun x s' x0 x1 B' O => ?_⟩
  obtain ⟨t, e, ht⟩ := atI_some (xs := menu) x0 x1
  obtain ⟨a, z, d, f, m, k, j, h, q, p, E⟩ := ent_ok ht
  exact ⟨t, e, of_okv E.fz (qq t a z d f m k j h q p s' E B' O)⟩
end L60

namespace L60
open PySem L2 Mir Num
/-! the law's own words and views -/
section
variable {t : Nm} {a : C_Array} {z : Sz} {d f m k j h q : Nat} {p : Int}
theorem lvalue_ok {x : Int} {l : List Int} (p1 : 0 < p) (p2 : p ≤ 1000) (x0 : 0 ≤ x) (x1 : x ≤ 1000) {Q : Int → Unit → Prop} (q : Q (val p x l) ()) : (m__law_value p l x ()).st Q := by
  unfold m__law_value
  simp only [st_mb, st_mp]
  refine st_forF (f := fun t a => (t * x + a) % p) (P := fun t => 0 ≤ t ∧ t < p) ⟨Int.le_refl _, p1⟩ (fun a _ t ht => ?_) fun _ => ?_
  · simp only [st_mb, st_mp, st_mc]
    exact ⟨mulOk_of (lt64 ht.1 (by omega)) (lt64 x0 (by omega)), modOk_of p1, trivial, ⟨Int.emod_nonneg _ (by omega), Int.emod_lt_of_pos _ p1⟩, trivial⟩
  · rw [List.foldl_reverse]
    exact q
theorem law_word_ok (E : Ent t a z d f m k j h q p) {n : Int} {Q : Tu Int → Unit → Prop} (qq : Q ⟨wordL j p n h⟩ ()) : (m__law_word z n ()).st Q := by
  have A := E.A
  have hh := A.h2
  have hj := A.j1
  have hq := A.q2
  rw [E.ez]
  unfold m__law_word
  simp only [st_mb, st_mp, st_mi, st_mc]
  refine ⟨fun c => ⟨b62_of (by omega) (by omega), ?_⟩, fun c => ⟨b62_of (by omega) (by omega), ?_⟩⟩
  · have c := of_decide_eq_true c
    refine st_cmA (g := wd j p n) (by rw [rng_length]; omega) (fun i hi => st_mp.mpr ⟨?_, rfl⟩) qq
    unfold wd
    by_cases e : j = 0
    · rw [if_pos e, decide_eq_true (by omega)]; rfl
    · rw [if_neg e, decide_eq_false (by omega), if_pos (by omega)]; rfl
  · have c := of_decide_eq_false c
    rcases A.cs with ⟨e, _⟩ | ⟨e, _⟩ | ⟨hj2, e, hp, hpq, hh, hb⟩
    · omega
    · omega
    have p0 := hp.pos
    rw [if_pos (by omega)]
    refine st_forP (Inv := fun rest (t : List Int × Int) _ => t.1 ++ digs p rest.length t.2 = digs p j n) ?_ ?_ ?_
    · rintro x xs ⟨acc, n'⟩ _ hI
      have hI : acc ++ digs p (xs.length + 1) n' = digs p j n := hI
      simp only [st_mb, st_mp, st_mc, st_mo]
      have hl : acc.length ≤ 64 := by have := congrArg List.length hI; rw [List.length_append, digs_len, digs_len] at this; omega
      refine ⟨p, rfl, modOk_of p0, decide_eq_true (by omega), p, rfl, divOk_of p0 (by omega), ?_⟩
      rw [List.append_assoc]
      exact hI
    · rintro ⟨acc, n'⟩ _ hI
      have hI : acc ++ [] = digs p j n := hI
      rw [List.append_nil] at hI
      subst hI
      simp only [st_mb, st_mp, st_mc]
      refine ⟨b62_of (by omega) (by omega), st_cmA (g := wd j p n) (by rw [rng_length]; omega) (fun i hi => ?_) qq⟩
      have hi := mem_rng.mp hi
      simp only [st_mb, st_mp, st_mu, st_mo]
      refine ⟨p, rfl, lvalue_ok p0 (by omega) (by omega) (by omega) ⟨?_, trivial⟩⟩
      unfold wd
      rw [if_neg (by omega), if_neg (by omega)]
    · show [] ++ digs p (rng 0 (j : Int).toNat).length n = _
      rw [rng_length, Int.toNat_natCast, List.nil_append]
theorem rule_ok (A : Ar a d f m k j h q p) {n : Int} (n0 : 0 ≤ n) (n1 : n < bin m k) {hs : List Int} {c : Int → Int} (V : Vw hs c h q) {tt : Int} (C : Cut hs c (wd j p n) tt) (hl : j + 1 ≤ hs.length) {Q : Bool → Unit → Prop} (qq : Q (dueV j hs c) ()) : (m__law_rule (mk hs c) j ()).st Q := by
  unfold m__law_rule
  have hvl := V.len
  have hh := A.h2
  simp only [st_mb, st_mp]
  rw [cutL_to (by omega), show ((j : Int) + 1).toNat = j + 1 by omega, mk_take]
  refine st_cmF (p := fun b => decide (b.2 = 0)) (g := fun b => b.1) (by rw [mk_len, List.length_take]; omega) (fun b hb => st_mp.mpr ⟨rfl, rfl⟩) (fun b hb _ => st_mp.mpr ⟨rfl, rfl⟩) ?_
  have hw : ∀ i ∈ hs, wd j p n i ≠ 0 := fun i _ => by have := wd_in A n0 n1 i; omega
  have hf := C.first V.s hw hl
  have : decide ((((mk (hs.take (j + 1)) c).filter fun b => decide (b.2 = 0)).map fun b => b.1) = []) = dueV j hs c := by
    unfold dueV
    rw [decide_eq_decide, ← hf, List.map_eq_nil_iff, List.filter_eq_nil_iff]
    exact ⟨fun g i hi e => g (i, c i) (mk_mem.mpr ⟨hi, rfl⟩) (decide_eq_true e), fun g b hb e => by
      have hb := mk_mem.mp hb
      exact g b.1 hb.1 (hb.2 ▸ of_decide_eq_true e)⟩
  rw [this]
  exact qq
theorem writes_ok (A : Ar a d f m k j h q p) {n : Int} {hs : List Int} {c : Int → Int} (V : Vw hs c h q) {due : Bool} {Q : List (Int × Int) → Unit → Prop} (qq : Q (mk (wr hs c (wd j p n) due) (wto (wd j p n) due)) ()) : (m__law_writes (mk hs c) ⟨wordL j p n h⟩ due ()).st Q := by
  unfold m__law_writes
  have hvl := V.len
  have hh := A.h2
  simp only [st_mb, st_mp, st_mi]
  refine ⟨fun g => ?_, fun g => ?_⟩
  · subst g
    refine st_cmF (p := fun b => !decide (b.2 = wd j p n b.1)) (g := fun b => (b.1, wd j p n b.1)) (by rw [mk_len]; omega) (fun b hb => ?_) (fun b hb _ => ?_) ?_
    · have hb := V.i b.1 (mk_mem.mp hb).1
      simp only [st_mb, st_mp, st_mo]
      exact ⟨_, atI_word hb.1 hb.2, rfl, trivial⟩
    · have hb := V.i b.1 (mk_mem.mp hb).1
      simp only [st_mb, st_mp, st_mo]
      exact ⟨_, atI_word hb.1 hb.2, rfl, trivial⟩
    · rw [mk_filter, mk_map]
      exact qq
  · subst g
    refine st_cmF (p := fun b => !decide (b.2 = 0)) (g := fun b => (b.1, 0)) (by rw [List.length_reverse, mk_len]; omega) (fun b hb => st_mp.mpr ⟨rfl, rfl⟩) (fun b hb _ => st_mp.mpr ⟨rfl, rfl⟩) ?_
    rw [show (mk hs c).reverse = mk hs.reverse c from (List.map_reverse ..).symm, mk_filter, mk_map]
    exact qq
theorem left_view_ok (A : Ar a d f m k j h q p) {n : Int} (n0 : 0 ≤ n) (n1 : n < bin m k) {K : PySem.W.Frag} {s : Sto K} {r : Ref} {N : Int} (B : Bx s r N) (hN : N ≤ 100000) {Q : List (Int × Int) → Sto K → Prop} (qq : ∀ c tt s', Vw (rng 0 h) c h q → Cut (rng 0 h) c (wd j p n) tt → Bx s' r (N + 2) → Only r s s' → Q (mk (rng 0 h) c) s') : (m__law_left_view r ⟨wordL j p n h⟩ q s).st Q := by
  unfold m__law_left_view
  have hh := A.h2
  have hq1 := A.q1
  have hq2 := A.q2
  have hwl : (wordL j p n h).length = h := by unfold wordL; rw [List.length_map, rng_length]
  simp only [st_mb, st_mp, st_mc, hwl]
  refine take_b B (by omega) (by omega) (by omega) fun tt s1 t0 t1 B1 O1 => take_b B1 (by omega) (by omega) (by omega) fun x s2 x0 x1 B2 O2 => ⟨b62_of (by omega) (by omega), ?_⟩
  refine st_cmA (g := fun i => (i, if i < tt then wd j p n i else if i = tt then x else 0)) (by rw [rng_length]; omega) (fun i hi => ?_) ?_
  · have hi := mem_rng.mp hi
    simp only [st_mb, st_mp, st_mi, st_mo]
    refine ⟨fun g => ⟨_, atI_word hi.1 (by omega), ?_, trivial⟩, fun g => ⟨?_, trivial⟩⟩
    · rw [if_pos (of_decide_eq_true g)]
    · rw [if_neg (of_decide_eq_false g)]
      by_cases e : i = tt
      · rw [if_pos e, decide_eq_true e]; rfl
      · rw [if_neg e, decide_eq_false e]; rfl
  · rw [Int.toNat_natCast]
    refine qq (fun i => if i < tt then wd j p n i else if i = tt then x else 0) tt s2 ⟨rng_pw, fun i hi => by have := mem_rng.mp hi; omega, fun i hi => ?_⟩ (fun i hi => ⟨fun g => ?_, fun g => ?_⟩) (B2.mono (by omega)) (O1.trans O2)
    · have := wd_in A n0 n1 i
      split
      · omega
      · split <;> omega
    · dsimp only
      rw [if_pos g]
    · dsimp only
      rw [if_neg (by omega), if_neg (by omega)]
theorem without_ok (A : Ar a d f m k j h q p) {hs : List Int} {c : Int → Int} (V : Vw hs c h q) {gone : List Int} {Q : List (Int × Int) → Unit → Prop} (qq : Q (mk (hs.filter fun i => !decide (i % ((d + f : Nat) : Int) ∈ gone)) c) ()) : (m__law_without (mk hs c) (d + f : Nat) gone ()).st Q := by
  unfold m__law_without
  have hvl := V.len
  have hh := A.h2
  have hd := A.d1
  simp only [st_mb, st_mp]
  refine st_cmF (p := fun b => !decide (b.1 % ((d + f : Nat) : Int) ∈ gone)) (g := fun b => (b.1, b.2)) (by rw [mk_len]; omega) (fun b hb => ?_) (fun b hb _ => st_mp.mpr ⟨rfl, rfl⟩) ?_
  · simp only [st_mb, st_mp, st_mc]
    exact ⟨modOk_of (by omega), trivial, trivial⟩
  · rw [mk_filter, mk_map]
    exact qq
theorem asked_ok (A : Ar a d f m k j h q p) {n : Int} (n0 : 0 ≤ n) (n1 : n < bin m k) {hs : List Int} {c : Int → Int} (V : Vw hs c h q) {tt : Int} (C : Cut hs c (wd j p n) tt) (hl : j + 1 ≤ hs.length) {before : Bool} (hb : before = false → dueV j hs c = false) {Q : Option Bool → Unit → Prop} (qq : Q (some (dueV j hs c)) ()) : (m__law_asked a (mk hs c) ⟨wordL j p n h⟩ (lotAt m k 0 n) j before ()).st Q := by
  unfold m__law_asked
  have hvl := V.len
  have hh := A.h2
  have hw : ∀ due : Bool, (wr hs c (wd j p n) due).length ≤ 1000 := fun due => by
    unfold wr
    split
    · have := List.length_filter_le (fun i => !decide (c i = wd j p n i)) hs; omega
    · have := List.length_filter_le (fun i => !decide (c i = 0)) hs.reverse; rw [List.length_reverse] at this; omega
  have hb2 : (dueV j hs c && decide (before = false)) = false := by
    cases e : before with
    | false => rw [hb e]; rfl
    | true => cases dueV j hs c <;> rfl
  simp only [st_mb, st_mp, st_mu]
  refine rule_ok A n0 n1 V C hl (st_moc.mpr ?_)
  simp only [st_mb, st_mp, st_mu, st_mi, st_mc, st_mbad]
  refine told_ok A n0 n1 V C hl ?_
  cases e : dueV j hs c with
  | false =>
    rw [e] at hb2 qq
    refine ⟨fun _ => ⟨fun g => Bool.noConfusion (show false = true from g), fun _ => ?_⟩, fun x e2 => absurd e2 (by simp)⟩
    refine mending_ok A n0 n1 V C hl ?_
    rw [e]
    refine writes_ok A V ⟨fun g => ?_, fun g => ?_⟩
    · exfalso
      rw [decide_eq_true rfl] at g
      cases g
    · refine left_ok A n0 n1 V C ⟨fun g => absurd g (by decide), fun _ => ⟨decide_eq_true (by rw [mk_len]; have := hw false; omega), fun g => absurd g (by decide), fun _ => ?_⟩⟩
      refine mending_ok A n0 n1 V C hl ?_
      rw [e]
      refine writes_ok A V ⟨fun g => ?_, fun g => ?_⟩
      · exfalso
        rw [decide_eq_true rfl] at g
        cases g
      · refine told_ok A n0 n1 V C hl ?_
        rw [e]
        exact ⟨fun g => by simp at g, fun _ => qq⟩
  | true =>
    rw [e] at hb2 qq
    refine ⟨fun e2 => absurd e2 (by simp), fun x e2 => ?_⟩
    cases e2
    rw [hb2]
    refine ⟨fun g => ?_, fun _ => ?_⟩
    · simp at g
    refine mending_ok A n0 n1 V C hl ?_
    rw [e]
    refine writes_ok A V ⟨fun g => ?_, fun g => ?_⟩
    · exfalso
      rw [decide_eq_true rfl] at g
      cases g
    · refine left_ok A n0 n1 V C ⟨fun g => absurd g (by decide), fun _ => ⟨decide_eq_true (by rw [mk_len]; have := hw true; omega), fun _ => ⟨decide_eq_true ?_, ?_⟩, fun g => absurd g (by decide)⟩⟩
      · rw [(lot_facts n0 n1).1]
        have := A.km
        have := A.m2
        omega
      refine mending_ok A n0 n1 V C hl ?_
      rw [e]
      refine writes_ok A V ⟨fun g => ?_, fun g => ?_⟩
      · exfalso
        rw [decide_eq_true rfl] at g
        cases g
      · refine told_ok A n0 n1 V C hl ?_
        rw [e]
        refine ⟨fun g => ?_, fun _ => qq⟩
        simp at g
end
end L60

namespace L60
open PySem L2 Mir Num
theorem mk_erase {hs : List Int} {c : Int → Int} {n : Nat} : (mk hs c).eraseIdx n = mk (hs.eraseIdx n) c := by
  unfold mk
  induction hs generalizing n with
  | nil => rfl
  | cons x hs ih =>
    cases n with
    | zero => rfl
    | succ n => show _ :: _ = _ :: _; rw [ih]
section
variable {a : C_Array} {d f m k j h q : Nat} {p : Int} {K : PySem.W.Frag} {s : Sto K} {r : Ref} {N : Int}
theorem pop_some {α : Type} {xs : List α} {i : Int} (h0 : 0 ≤ i) (h1 : i < xs.length) (h2 : xs.length ≤ 1000000) : popAt xs i = some (xs.eraseIdx i.toNat) := by
  unfold popAt ixN
  rw [if_pos (decide_eq_true (by omega)), if_pos h0, if_pos h1]
  rfl
/-- all right, or all 0 -/
theorem all_cut {hs : List Int} {c w : Int → Int} {due : Bool} (hi : ∀ x ∈ hs, 0 ≤ x ∧ x < (h : Int)) (e : ∀ i ∈ hs, c i = wto w due i) : ∃ tt, Cut hs c w tt := by
  cases due with
  | true => exact ⟨h, fun i hh => ⟨fun _ => e i hh, fun g => by have := hi i hh; omega⟩⟩
  | false => exact ⟨-1, fun i hh => ⟨fun g => by have := hi i hh; omega, fun _ => e i hh⟩⟩
theorem nz_all {hs : List Int} {c : Int → Int} (e : ∀ i ∈ hs, c i ≠ 0) : nz hs c = hs.length := by
  unfold nz
  rw [List.filter_eq_self.mpr fun i hi => by simpa using e i hi]
theorem all_due' (A : Ar a d f m k j h q p) {n : Int} (n0 : 0 ≤ n) (n1 : n < bin m k) {hs : List Int} {c : Int → Int} {due : Bool} (e : ∀ i ∈ hs, c i = wto (wd j p n) due i) (hl : j + 1 ≤ hs.length) : dueV j hs c = due := by
  unfold dueV
  cases due with
  | true =>
    have : nz hs c = hs.length := nz_all fun i hi => by
      rw [e i hi]
      have := wd_in A n0 n1 i
      show wd j p n i ≠ 0
      omega
    rw [this]
    exact decide_eq_true hl
  | false =>
    rw [nz_zero e]
    exact decide_eq_false (by omega)
theorem all_wr {hs : List Int} {c w : Int → Int} {due : Bool} (e : ∀ i ∈ hs, c i = wto w due i) : wr hs c w due = [] := by
  unfold wr
  cases due with
  | true => rw [if_pos rfl]; exact List.filter_eq_nil_iff.mpr fun i hi => by rw [e i hi]; simp [wto]
  | false => rw [if_neg (by decide)]; exact List.filter_eq_nil_iff.mpr fun i hi => by rw [e i (List.mem_reverse.mp hi)]; simp [wto]
theorem parts_ok (A : Ar a d f m k j h q p) {n : Int} (n0 : 0 ≤ n) (n1 : n < bin m k) {hs : List Int} {c : Int → Int} (V : Vw hs c h q) {due : Bool} (ec : ∀ i ∈ hs, c i = wto (wd j p n) due i) (hl : j + 1 ≤ hs.length) (B : Bx s r N) (hN : N ≤ 100000) {Q : Bool → Sto K → Prop} (qq : ∀ s', Q true s') : (m__law_parts_right r a (mk hs c) (lotAt m k 0 n) j due s).st Q := by
  unfold m__law_parts_right
  have hvl := V.len
  have hh := A.h2
  simp only [st_mb, st_mp, st_mc]
  refine ⟨by decide, ?_⟩
  refine st_forC (Inv := fun rest _ s' => ∃ N', Bx s' r N' ∧ N' + 1000 * rest.length ≤ 200000) ?_ ?_ ⟨N, B, by rw [rng_length]; show N + 1000 * ((3 : Nat) : Int) ≤ _; omega⟩
  · rintro x xs _ s1 ⟨N1, B1, hN1⟩
    rw [List.length_cons] at hN1
    simp only [st_mb, st_mp, st_mc, st_mi, st_mu]
    -- how many are taken out
    have body : ∀ (y : Int) (s2 : Sto K) (N2 : Int), 0 ≤ y → (j : Int) + 1 + y ≤ hs.length → Bx s2 r N2 → N2 ≤ N1 + 1 →
        (b62 (((((mk hs c).length : Nat) : Int) - j - 1) - y) = true ∧ (forP (rng 0 (((((mk hs c).length : Nat) : Int) - j - 1) - y).toNat) (mk hs c) (fun a671 (t659 : (List (Int × Int))) =>
    (mb (mb (mb (mb (mp r) fun x_674 => mb (mb (mp (((t659.length : Nat) : Int) : Int)) fun x_672 => mb (mp ()) fun z673 => mp (x_672, z673)) fun z675 => mp (x_674, z675)) fun z676 => (m__law_take z676.1 z676.2.1)) fun i678 => mo (popAt t659 i678)) fun part677 => mp part677)) s2).st fun t s' => ∃ hs', t = mk hs' c ∧ List.Sublist hs' hs ∧ j + 1 ≤ hs'.length ∧ ∃ N', Bx s' r N' ∧ N' ≤ N2 + 997) := by
      intro y s2 N2 y0 y1 B2 hN2
      rw [mk_len]
      refine ⟨b62_of (by omega) (by omega), ?_⟩
      refine st_forP (Inv := fun rest (t : List (Int × Int)) s' => ∃ hs', t = mk hs' c ∧ List.Sublist hs' hs ∧ ((hs'.length : Nat) : Int) = j + 1 + y + (rest.length : Nat) ∧ ∃ N', Bx s' r N' ∧ N' + (rest.length : Nat) ≤ N2 + 997) ?_ ?_ ⟨hs, rfl, List.Sublist.refl _, by rw [rng_length]; omega, N2, B2, by rw [rng_length]; omega⟩
      · rintro x xs t s3 ⟨hs', rfl, hsub, hlen, N3, B3, hN3⟩
        rw [List.length_cons] at hlen hN3
        have hle := hsub.length_le
        simp only [st_mb, st_mp, st_mo]
        rw [mk_len]
        refine take_b B3 (by omega) (by omega) (by omega) fun i s4 i0 i1 B4 O4 => ?_
        refine ⟨_, pop_some i0 (by rw [mk_len]; omega) (by rw [mk_len]; omega), hs'.eraseIdx i.toNat, mk_erase, (List.eraseIdx_sublist ..).trans hsub, ?_, N3 + 1, B4, by omega⟩
        rw [List.length_eraseIdx_of_lt (by omega)]
        omega
      · rintro t s3 ⟨hs', rfl, hsub, hlen, N3, B3, hN3⟩
        exact ⟨hs', rfl, hsub, by omega, N3, B3, by omega⟩
    have fin : ∀ (hs' : List Int) (s2 : Sto K) (N2 : Int), List.Sublist hs' hs → j + 1 ≤ hs'.length → Bx s2 r N2 → N2 ≤ N1 + 998 →
       ((m_told a ⟨false, mk hs' c⟩ ()).st fun o _ => ((!decide (o = bif due then some (lotAt m k 0 n) else none)) = true → False) ∧ ((!decide (o = bif due then some (lotAt m k 0 n) else none)) = false → (m_mending a ⟨false, mk hs' c⟩ ()).st fun w _ => w = [])) := by
      intro hs' s2 N2 hsub hlen B2 hN2
      have V' : Vw hs' c h q := ⟨List.Pairwise.sublist hsub V.s, fun x hx => V.i x (hsub.subset hx), fun x hx => V.c x (hsub.subset hx)⟩
      have ec' : ∀ i ∈ hs', c i = wto (wd j p n) due i := fun i hi => ec i (hsub.subset hi)
      obtain ⟨tt, C⟩ := all_cut (h := h) V'.i ec'
      have ed := all_due' A n0 n1 ec' hlen
      refine told_ok A n0 n1 V' C hlen ?_
      rw [ed]
      refine ⟨fun g => ?_, fun _ => ?_⟩
      · cases due <;> simp at g
      · refine mending_ok A n0 n1 V' C hlen ?_
        rw [ed, all_wr ec']
        rfl
    refine ⟨fun g => take_b B1 (by omega) (by decide) (by decide) fun y s2 y0 y1 B2 O2 => ?_, fun g => ?_⟩
    · have g := of_decide_eq_true g
      rw [mk_len] at g
      obtain ⟨b1, b2⟩ := body y s2 _ y0 (by omega) B2 (by omega)
      refine ⟨b1, R.st_imp b2 fun t s3 ⟨hs', et, hsub, hlen, N3, B3, hN3⟩ => ?_⟩
      subst et
      refine R.st_imp (fin hs' s3 N3 hsub hlen B3 (by omega)) fun o _ ⟨f1, f2⟩ => ?_
      exact ⟨fun g => (f1 g).elim, fun g => R.st_imp (f2 g) fun w _ e => ⟨fun g => by subst e; simp at g, fun _ => ⟨N3, B3, by omega⟩⟩⟩
    · obtain ⟨b1, b2⟩ := body 0 s1 N1 (Int.le_refl _) (by omega) B1 (by omega)
      refine ⟨b1, R.st_imp b2 fun t s3 ⟨hs', et, hsub, hlen, N3, B3, hN3⟩ => ?_⟩
      subst et
      refine R.st_imp (fin hs' s3 N3 hsub hlen B3 (by omega)) fun o _ ⟨f1, f2⟩ => ?_
      exact ⟨fun g => (f1 g).elim, fun g => R.st_imp (f2 g) fun w _ e => ⟨fun g => by subst e; simp at g, fun _ => ⟨N3, B3, by omega⟩⟩⟩
  · rintro _ s1 _
    show (mp true s1).st Q
    exact st_mp.mpr (qq s1)
end
end L60

namespace L60
open PySem L2 Mir Num
/-- disks that are lost -/
structure Gn (n f : Nat) (G : List Int) : Prop where
  l : G.length ≤ f
  i : ∀ g ∈ G, 0 ≤ g ∧ g < n
/-- the heads that are left -/
def heads (h n : Nat) (G : List Int) : List Int := (rng 0 h).filter fun i => !decide (i % (n : Int) ∈ G)
theorem heads_sub {h n : Nat} {G G' : List Int} (hs : ∀ g ∈ G, g ∈ G') : (heads h n G).filter (fun i => !decide (i % (n : Int) ∈ G')) = heads h n G' := by
  unfold heads
  rw [List.filter_filter]
  refine List.filter_congr fun i _ => ?_
  by_cases e : i % (n : Int) ∈ G'
  · rw [decide_eq_true e]; rfl
  · rw [decide_eq_false e, decide_eq_false (fun g => e (hs _ g))]; rfl
theorem heads_len {a : C_Array} {d f m k j h q : Nat} {p : Int} (A : Ar a d f m k j h q p) {G : List Int} (g : Gn (d + f) f G) : j + 1 ≤ (heads h (d + f) G).length := by
  obtain ⟨c, e, hc⟩ := A.hd
  have hd := A.d1
  unfold heads
  rw [e]
  exact left_len (by omega) (by rw [Nat.add_sub_cancel]; exact hc) g.l g.i
theorem heads_nil {h n : Nat} : heads h n [] = rng 0 h := List.filter_eq_self.mpr fun i _ => by simp
theorem heads_in {h n : Nat} {G : List Int} : ∀ x ∈ heads h n G, 0 ≤ x ∧ x < (h : Int) := fun x hx => by
  have := mem_rng.mp (List.mem_filter.mp hx).1
  omega
theorem heads_srt {h n : Nat} {G : List Int} : Srt (heads h n G) := Srt.filter rng_pw _
/-- what stands behind each round -/
def Rd (d f h q j : Nat) (w : Int → Int) (t : List (Int × Int) × List Int × Bool) : Prop := ∃ c tt, t.1 = mk (heads h (d + f) t.2.1) c ∧ (∀ x ∈ heads h (d + f) t.2.1, 0 ≤ c x ∧ c x < q) ∧ Cut (heads h (d + f) t.2.1) c w tt ∧ Gn (d + f) f t.2.1 ∧ (t.2.2 = false → dueV j (heads h (d + f) t.2.1) c = false)
section
variable {a : C_Array} {d f m k j h q : Nat} {p : Int} {K : PySem.W.Frag} {s : Sto K} {r : Ref} {N : Int}
theorem gone_ok (A : Ar a d f m k j h q p) {G : List Int} (g : Gn (d + f) f G) (B : Bx s r N) (hN : N ≤ 100000) {x : Int} (x1 : x ≤ 2) {ta tb : Int} (ea : ta = (d + f : Nat)) (eb : tb = f) {Q : List Int → Sto K → Prop} (qq : ∀ G' s', Gn (d + f) f G' → (∀ y ∈ G, y ∈ G') → Bx s' r (N + 2) → Only r s s' → Q G' s') : (forP (rng 0 x.toNat) G (fun a764 (t755 : (List Int)) =>
    (mb (mb (mb (mp r) fun x_767 => mb (mb (mp ta) fun x_765 => mb (mp ()) fun z766 => mp (x_765, z766)) fun z768 => mp (x_767, z768)) fun z769 => (m__law_take z769.1 z769.2.1)) fun disk770 =>
    (mb (mb (mb (mc (lenOk (t755.length + (cond (decide (((t755.length : Nat) : Int) < tb) && (!decide (disk770 ∈ t755))) ([disk770] : (List Int)) ([] : (List Int))).length)) (t755 ++ (cond (decide (((t755.length : Nat) : Int) < tb) && (!decide (disk770 ∈ t755))) ([disk770] : (List Int)) ([] : (List Int))))) fun x_771 => mb (mp ()) fun z772 => mp (x_771, z772)) fun z773 => mp (srt z773.1)) fun gone774 => mp gone774))) s).st Q := by
  subst ea eb
  have hd := A.d1
  have hdf := A.df
  refine st_forP (Inv := fun rest (G' : List Int) s' => Gn (d + f) f G' ∧ (∀ y ∈ G, y ∈ G') ∧ Only r s s' ∧ ∃ N', Bx s' r N' ∧ N' + (rest.length : Nat) ≤ N + 2) ?_ ?_ ⟨g, fun y hy => hy, Only.refl, N, B, by rw [rng_length]; omega⟩
  · rintro y ys G' s1 ⟨g', hs, O, N', B', hN'⟩
    rw [List.length_cons] at hN'
    simp only [st_mb, st_mp, st_mc]
    refine take_b B' (by omega) (by omega) (by omega) fun disk s2 d0 d1 B2 O2 => ?_
    have hl := g'.l
    by_cases e : (decide (((G'.length : Nat) : Int) < (f : Int)) && (!decide (disk ∈ G'))) = true
    · rw [e]
      have e := Bool.and_eq_true _ _ |>.mp e
      have e1 := of_decide_eq_true e.1
      have mem : ∀ z, z ∈ srt (G' ++ [disk]) ↔ z ∈ G' ∨ z = disk := fun z => by rw [(srt_perm _).mem_iff, List.mem_append, List.mem_singleton]
      refine ⟨decide_eq_true (by show G'.length + 1 ≤ _; omega), ⟨?_, fun z hz => ?_⟩, fun z hz => (mem z).mpr (.inl (hs z hz)), O.trans O2, N' + 1, B2, by omega⟩
      · rw [(srt_perm _).length_eq]
        show (G' ++ [disk]).length ≤ f
        rw [List.length_append, List.length_singleton]
        omega
      · rcases (mem z).mp hz with hz | rfl
        · exact g'.i z hz
        · exact ⟨d0, d1⟩
    · have e : (decide (((G'.length : Nat) : Int) < (f : Int)) && (!decide (disk ∈ G'))) = false := by simpa using e
      rw [e]
      have mem : ∀ z, z ∈ srt (G' ++ []) ↔ z ∈ G' := fun z => by rw [(srt_perm _).mem_iff, List.append_nil]
      refine ⟨decide_eq_true (by show G'.length + 0 ≤ _; omega), ⟨?_, fun z hz => g'.i z ((mem z).mp hz)⟩, fun z hz => (mem z).mpr (hs z hz), O.trans O2, N' + 1, B2, by omega⟩
      rw [(srt_perm _).length_eq]
      show (G' ++ []).length ≤ f
      rw [List.append_nil]
      omega
  · rintro G' s1 ⟨g', hs, O, N', B', hN'⟩
    exact qq G' s1 g' hs (B'.mono (by simpa using hN')) O
/-- writes done and torn -/
theorem round_ok (A : Ar a d f m k j h q p) {n : Int} (n0 : 0 ≤ n) (n1 : n < bin m k) {hs : List Int} (hs1 : Srt hs) (hi : ∀ x ∈ hs, 0 ≤ x ∧ x < (h : Int)) {c : Int → Int} (hc : ∀ x ∈ hs, 0 ≤ c x ∧ c x < q) {tt : Int} (C : Cut hs c (wd j p n) tt) (due : Bool) (hd : due = dueV j hs c) (hl : j + 1 ≤ hs.length) (L : List Int) (eL : L = wr hs c (wd j p n) due) :
    (∀ l : Nat, l ≤ L.length → (mk (L.take l) (wto (wd j p n) due)).foldl (fun acc kv => putI acc kv.1 kv.2) (mk hs c) = mk hs (done c (L.take l) (wto (wd j p n) due)))
    ∧ (∀ l : Nat, (hl : l < L.length) → ∀ y : Int, 0 ≤ y → y < q → ∃ c' tt', sv (done c (L.take l) (wto (wd j p n) due)) L[l] y = c' ∧ (∀ x ∈ hs, 0 ≤ c' x ∧ c' x < q) ∧ Cut hs c' (wd j p n) tt' ∧ (due = false → dueV j hs c' = false))
    ∧ (∀ l : Nat, l = L.length → ∃ c' tt', done c (L.take l) (wto (wd j p n) due) = c' ∧ (∀ x ∈ hs, 0 ≤ c' x ∧ c' x < q) ∧ Cut hs c' (wd j p n) tt' ∧ (due = false → dueV j hs c' = false)) := by
  have hq := A.q1
  have wq : ∀ i, 0 ≤ wto (wd j p n) due i ∧ wto (wd j p n) due i < q := fun i => by
    unfold wto
    have := wd_in A n0 n1 i
    split <;> omega
  have dq : ∀ (M : List Int), ∀ x ∈ hs, 0 ≤ done c M (wto (wd j p n) due) x ∧ done c M (wto (wd j p n) due) x < q := fun M x hx => by
    unfold done
    split
    · exact wq x
    · exact hc x hx
  refine ⟨fun l _ => put_all fun i hi => ?_, fun l hlt y y0 y1 => ?_, fun l e => ?_⟩
  · have := List.mem_of_mem_take hi
    rw [eL] at this
    exact wr_mem this
  · have eAB : wr hs c (wd j p n) due = L.take l ++ L[l] :: L.drop (l + 1) := by rw [← eL]; simp
    refine ⟨_, L[l], rfl, fun x hx => ?_, C.torn hs1 eAB y, fun g => ?_⟩
    · unfold sv
      split
      · exact ⟨y0, y1⟩
      · exact dq _ x hx
    · subst g
      have h1 := torn_nz eAB y
      have h2 : ¬ j + 1 ≤ nz hs c := of_decide_eq_false hd.symm
      unfold dueV
      refine decide_eq_false fun g => h2 (Nat.le_trans g h1)
  · rw [e, List.take_length, eL]
    obtain ⟨tt', C'⟩ := all_cut (h := h) hi (c := done c (wr hs c (wd j p n) due) (wto (wd j p n) due)) (due := due) (w := wd j p n) fun i hh => all_done i hh
    refine ⟨_, tt', rfl, dq _, C', fun g => ?_⟩
    rw [all_due' A n0 n1 (due := due) (fun i hh => all_done i hh) hl]
    exact g
end
end L60

namespace L60
open PySem L2 Mir Num
section
variable {K : PySem.W.Frag} {s : Sto K} {r : Ref}
theorem Ent.v {t : Nm} {a : C_Array} {z : Sz} {d f m k j h q : Nat} {p : Int} (E : Ent t a z d f m k j h q p) : t.a = (d + f : Nat) ∧ t.b = f ∧ t.c = m ∧ t.d = k ∧ t.e = q ∧ z.b = bin m k ∧ z.c = j := by
  obtain ⟨A, rfl, rfl, _, _⟩ := E
  exact ⟨rfl, rfl, rfl, rfl, rfl, rfl, rfl⟩
theorem full_view {a : C_Array} {d f m k j h q : Nat} {p : Int} (A : Ar a d f m k j h q p) {n : Int} (n0 : 0 ≤ n) (n1 : n < bin m k) : Vw (rng 0 h) (wd j p n) h q ∧ Cut (rng 0 h) (wd j p n) (wd j p n) h ∧ j + 1 ≤ (rng 0 h).length ∧ dueV j (rng 0 h) (wd j p n) = true := by
  obtain ⟨c, e, hc⟩ := A.hd
  have hl : j + 1 ≤ (rng 0 h).length := by rw [rng_length]; omega
  refine ⟨⟨rng_pw, fun x hx => by have := mem_rng.mp hx; omega, fun x hx => by have := wd_in A n0 n1 x; omega⟩, fun i hi => ⟨fun _ => rfl, fun g => ?_⟩, hl, all_due' (due := true) A n0 n1 (fun i _ => rfl) hl⟩
  have := mem_rng.mp hi
  omega
theorem right_ok (B : Bx s r 0) {Q : Bool → Sto K → Prop} (qq : ∀ s', Q true s') : (m__law_right r s).st Q := by
  unfold m__law_right
  simp only [st_mb, st_mp, st_mu]
  refine drawn_ok B (by decide) fun t a z d f m k j h q p s1 E B1 O1 => ?_
  refine drawn_ok B1 (by decide) fun t2 a2 z2 d2 f2 m2 k2 j2 h2 q2 p2 s2 E2 B2 O2 => ?_
  refine of_okA E.fa (of_okA E2.fa ?_)
  obtain ⟨ta, tb, tc, td, te, zb, zc⟩ := E.v
  obtain ⟨ta2, tb2, tc2, td2, te2, zb2, zc2⟩ := E2.v
  have A := E.A
  have A2 := E2.A
  have hb1 := bin_pos A.km
  have hb2 : bin m k ≤ 2 ^ 24 := Nat.le_trans bin_le (Nat.pow_le_pow_right (by decide) A.m2)
  refine take_b B2 (by decide) (by show 0 < z.b; omega) (by show z.b ≤ _; omega) fun n s3 n0 n1 B3 O3 => ?_
  have n1 : n < z.b := n1
  rw [zb] at n1
  refine law_word_ok E ?_
  simp only [tc, td, te, zc, td2]
  refine law_lot_ok A.km A.m2 n0 n1 ?_
  refine head_word_ok A n0 n1 ?_
  rw [show (!decide ((Tu.mk (wordL j p n h) : Tu Int) = Tu.mk (wordL j p n h))) = false by simp]
  simp only [st_mi]
  refine ⟨fun g => absurd g (by decide), fun _ => ?_⟩
  rw [st_mb, st_mu]
  refine lot_number_ok A n0 n1 (st_mp.mpr ?_)
  rw [show (!decide (n = n)) = false by simp]
  refine ⟨fun g => absurd g (by decide), fun _ => ?_⟩
  simp only [st_mb, st_mp]
  refine left_view_ok A n0 n1 B3 (by decide) fun c tt s4 V C B4 O4 => ?_
  simp only [st_mc]
  refine ⟨by decide, ?_⟩
  have hq1 := A.q1
  have hq2 := A.q2
  have hh := A.h2
  refine st_forC (Inv := fun rest t s' => Rd d f h q j (wd j p n) t ∧ (∀ x ∈ rest, 0 ≤ x) ∧ ∃ N', Bx s' r N' ∧ N' + 10 * (rest.length : Nat) ≤ 1000) ?_ ?_ ⟨⟨c, tt, by show _ = mk (heads h (d + f) []) c; rw [heads_nil], by show ∀ x ∈ heads h (d + f) [], _; rw [heads_nil]; exact V.c, by show Cut (heads h (d + f) []) _ _ _; rw [heads_nil]; exact C, ⟨Nat.zero_le _, fun g hg => nomatch hg⟩, fun g => nomatch g⟩, fun x hx => by have := mem_rng.mp hx; omega, _, B4, by rw [rng_length]; decide⟩
  · rintro x xs ⟨view, gone, before⟩ s5 ⟨⟨c1, t1, ev, hc1, C1, g1, hb⟩, hx, N5, B5, hN5⟩
    dsimp only at ev hc1 C1 g1 hb
    rw [List.length_cons] at hN5
    simp only [st_mb, st_mp, st_mc]
    refine take_b B5 (by omega) (by decide) (by decide) fun y s6 y0 y1 B6 O6 => ⟨b62_of (by omega) (by omega), ?_⟩
    refine gone_ok A g1 B6 (by omega) (x := y) (by omega) ta tb fun gone' s7 g7 hs7 B7 O7 => ?_
    rw [st_mu, ev, ta]
    have V1 : Vw (heads h (d + f) gone) c1 h q := ⟨heads_srt, heads_in, hc1⟩
    refine without_ok A V1 ?_
    rw [heads_sub hs7, st_mu]
    have hsub : ∀ i ∈ heads h (d + f) gone', i ∈ heads h (d + f) gone := fun i hi => by
      rw [← heads_sub hs7] at hi
      exact (List.mem_filter.mp hi).1
    have V2 : Vw (heads h (d + f) gone') c1 h q := ⟨heads_srt, heads_in, fun i hi => hc1 i (hsub i hi)⟩
    have C2 := C1.sub hsub
    have hl2 := heads_len A g7
    refine asked_ok A n0 n1 V2 C2 hl2 (fun e => ?_) ?_
    · have e := of_decide_eq_false (hb e)
      refine decide_eq_false fun g => e (Nat.le_trans g ?_)
      rw [← heads_sub hs7]
      exact nz_filter _
    rw [st_mu]
    refine law_word_ok E2 ?_
    simp only [st_mi]
    refine ⟨fun g => Bool.noConfusion (show false = true from g), fun _ => ?_⟩
    have hwl : (wordL j2 p2 0 h2).length = h2 := by unfold wordL; rw [List.length_map, rng_length]
    have hh2 := A2.h2
    have hbp2 := bin_pos A2.km
    simp only [st_mb, st_mp, st_mc, hwl]
    refine ⟨b62_of (by omega) (by omega), st_cmA (g := fun i => (i, wd j2 p2 0 i)) (by rw [rng_length]; omega) (fun i hi => ?_) ?_⟩
    · have hi := mem_rng.mp hi
      simp only [st_mb, st_mp, st_mo]
      exact ⟨_, atI_word hi.1 (by omega), rfl, trivial⟩
    obtain ⟨W1, W2, W3, W4⟩ := full_view A2 (n := 0) (Int.le_refl _) (by omega)
    rw [st_mu, Int.toNat_natCast]
    refine told_ok A2 (Int.le_refl _) (by omega) W1 W2 W3 ?_
    rw [W4, if_pos rfl, lot_first A2.km, Int.toNat_natCast]
    have hkm2 := A2.km
    have hm2 := A2.m2
    refine ⟨decide_eq_true (by omega), ?_⟩
    rw [show (!decide ((some (rng 0 k2) : Option (List Int)) = some (rng 0 k2))) = false by simp]
    refine ⟨fun g => absurd g (by decide), fun _ => ?_⟩
    simp only [st_mo, Option.some.injEq, exists_eq_left', st_mu]
    refine writes_ok A V2 ?_
    generalize hdue : dueV j (heads h (d + f) gone') c1 = due
    generalize hL : wr (heads h (d + f) gone') c1 (wd j p n) due = L
    obtain ⟨R1, R2, R3⟩ := round_ok A n0 n1 heads_srt heads_in V2.c C2 due hdue.symm hl2 L hL.symm
    have hLl : L.length ≤ 1000 := by
      have := V2.len
      rw [← hL]
      unfold wr
      split
      · have := List.length_filter_le (fun i => !decide (c1 i = wd j p n i)) (heads h (d + f) gone'); omega
      · have := List.length_filter_le (fun i => !decide (c1 i = 0)) (heads h (d + f) gone').reverse; rw [List.length_reverse] at this; omega
    have hhl : (heads h (d + f) gone').length ≤ 997 := by have := V2.len; omega
    refine R.st_imp (Q := fun (l : Int) (s8 : Sto K) => 0 ≤ l ∧ l ≤ (L.length : Nat) ∧ ∃ N8, Bx s8 r N8 ∧ N8 ≤ N5 + 5) ?_ fun l s8 ⟨l0, l1, N8, B8, hN8⟩ => ?_
    · rw [st_mi]
      simp only [st_mb, st_mp, mk_len]
      refine ⟨fun g => ?_, fun g => ?_⟩
      · have g := of_decide_eq_false (by simpa using (Bool.and_eq_true _ _ |>.mp g).2 : decide (mk L (wto (wd j p n) due) = []) = false)
        have hpos : 0 < L.length := by
          rcases Nat.eq_zero_or_pos L.length with e | e
          · exact absurd (by rw [List.length_eq_zero_iff.mp e]; rfl) g
          · exact e
        exact take_b B7 (by omega) (by omega) (by omega) fun l s8 l0 l1 B8 O8 => ⟨l0, by omega, _, B8, by omega⟩
      · exact take_b B7 (by omega) (by omega) (by omega) fun l s8 l0 l1 B8 O8 => ⟨l0, by omega, _, B8, by omega⟩
    obtain ⟨l, rfl⟩ : ∃ l' : Nat, l = l' := ⟨l.toNat, by omega⟩
    rw [cutL_to l0, Int.toNat_natCast, mk_take, mergeI_mk heads_srt.nodup]
    refine st_forF (f := fun acc kv => putI acc kv.1 kv.2) (P := fun t => ∃ c', t = mk (heads h (d + f) gone') c') ⟨c1, rfl⟩ (fun b hb t ⟨c', e⟩ => ?_) fun _ => ?_
    · subst e
      simp only [st_mb, st_mp, st_mc]
      have hm : b.1 ∈ heads h (d + f) gone' := by
        have := List.mem_of_mem_take (mk_mem.mp hb).1
        rw [← hL] at this
        exact wr_mem this
      refine ⟨decide_eq_true (by rw [mk_len]; omega), trivial, ⟨_, putI_mk hm⟩, trivial⟩
    rw [R1 l (by omega)]
    simp only [mk_len]
    rw [st_mi]
    simp only [st_mb, st_mp, st_mo, st_mc, mk_len]
    refine ⟨fun g => ?_, fun g => ?_⟩
    · have g := of_decide_eq_true g
      have g' : l < L.length := by omega
      refine take_b B8 (by omega) (by omega) (by omega) fun y2 s9 y20 y21 B9 O9 => ?_
      obtain ⟨c', tt', e1, e2, e3, e4⟩ := R2 l g' y2 y20 y21
      have hm : L[l] ∈ heads h (d + f) gone' := by
        have hmm : ∀ y ∈ L, y ∈ heads h (d + f) gone' := fun y hy => by rw [← hL] at hy; exact wr_mem hy
        exact hmm _ (List.getElem_mem g')
      refine ⟨(L[l], wto (wd j p n) due L[l]), ?_, decide_eq_true (by omega), ?_⟩
      · rw [atI_get' (by omega) (by rw [mk_len]; omega), Int.toNat_natCast]
        unfold mk
        rw [List.getElem?_map, List.getElem?_eq_getElem g']
        rfl
      · rw [putI_mk hm, e1, mk_len, srtP_mk heads_srt]
        exact ⟨decide_eq_true (by omega), ⟨c', tt', rfl, e2, e3, g7, e4⟩, fun z hz => hx z (List.mem_cons_of_mem _ hz), _, B9, by omega⟩
    · have g := of_decide_eq_false g
      obtain ⟨c', tt', e1, e2, e3, e4⟩ := R3 l (by omega)
      rw [e1, srtP_mk heads_srt]
      exact ⟨decide_eq_true (by omega), ⟨c', tt', rfl, e2, e3, g7, e4⟩, fun z hz => hx z (List.mem_cons_of_mem _ hz), _, B8, by omega⟩
  · rintro ⟨view, gone, before⟩ s5 ⟨⟨c1, t1, ev, hc1, C1, g1, hb⟩, -, N5, B5, hN5⟩
    dsimp only at ev hc1 C1 g1 hb
    subst ev
    show (mb (mu (m__law_rule (mk (heads h (d + f) gone) c1) j)) _ s5).st Q
    simp only [st_mb, st_mp]
    have V1 : Vw (heads h (d + f) gone) c1 h q := ⟨heads_srt, heads_in, hc1⟩
    have hl1 := heads_len A g1
    have hhl : (heads h (d + f) gone).length ≤ 997 := by have := V1.len; omega
    rw [st_mu]
    refine rule_ok A n0 n1 V1 C1 hl1 ?_
    rw [st_mu]
    refine writes_ok A V1 ?_
    generalize hdue : dueV j (heads h (d + f) gone) c1 = due
    generalize hL : wr (heads h (d + f) gone) c1 (wd j p n) due = L
    obtain ⟨R1, R2, R3⟩ := round_ok A n0 n1 heads_srt heads_in V1.c C1 due hdue.symm hl1 L hL.symm
    refine st_forF (f := fun acc kv => putI acc kv.1 kv.2) (P := fun t => ∃ c', t = mk (heads h (d + f) gone) c') ⟨c1, rfl⟩ (fun b hb t ⟨c', e⟩ => ?_) fun _ => ?_
    · subst e
      simp only [st_mb, st_mp, st_mc]
      have hm : b.1 ∈ heads h (d + f) gone := by
        have := (mk_mem.mp hb).1
        rw [← hL] at this
        exact wr_mem this
      rw [mergeI_mk heads_srt.nodup, putI_mk hm, mk_len, mk_len, srtP_mk heads_srt]
      exact ⟨decide_eq_true (by omega), decide_eq_true (by omega), rfl, ⟨_, rfl⟩, trivial⟩
    have r1 := R1 L.length (Nat.le_refl _)
    rw [List.take_length] at r1
    rw [r1]
    have ed : ∀ i ∈ heads h (d + f) gone, done c1 L (wto (wd j p n) due) i = wto (wd j p n) due i := by
      rw [← hL]
      exact fun i hi => all_done i hi
    refine st_cmA (g := fun b => (b.1, wto (wd j p n) due b.1)) (by rw [mk_len]; omega) (fun b hb => ?_) ?_
    · have hb := heads_in b.1 (mk_mem.mp hb).1
      simp only [st_mb, st_mp, st_mi, st_mo]
      refine ⟨fun g => ⟨_, atI_word hb.1 hb.2, ?_, trivial⟩, fun g => ⟨?_, trivial⟩⟩
      · rw [g]; rfl
      · rw [g]; rfl
    have e2 : ((mk (heads h (d + f) gone) (done c1 L (wto (wd j p n) due))).map fun b => (b.1, wto (wd j p n) due b.1)) = mk (heads h (d + f) gone) (done c1 L (wto (wd j p n) due)) := by
      rw [mk_map]
      exact (mk_congr ed).symm
    rw [e2]
    rw [show (!decide (mk (heads h (d + f) gone) (done c1 L (wto (wd j p n) due)) = mk (heads h (d + f) gone) (done c1 L (wto (wd j p n) due)))) = false by simp]
    simp only [st_mi, st_mb, st_mp]
    refine ⟨fun g => absurd g (by decide), fun _ => ?_⟩
    have hwq : ∀ x ∈ heads h (d + f) gone, 0 ≤ done c1 L (wto (wd j p n) due) x ∧ done c1 L (wto (wd j p n) due) x < q := fun x hx => by
      rw [ed x hx]
      have := wd_in A n0 n1 x
      unfold wto
      split <;> omega
    refine parts_ok A n0 n1 ⟨heads_srt, heads_in, hwq⟩ ed hl1 B5 (by simp at hN5; omega) fun s6 => ?_
    refine ⟨fun _ => ?_, fun g => absurd g (by decide)⟩
    have : (decide (due = false) || !decide (before = false)) = true := by
      cases before with
      | true => cases due <;> rfl
      | false => rw [← hdue, hb rfl]; rfl
    rw [this]
    exact qq s6
/-- the plain law -/
theorem law_ok {ns : List Int} (hl : ns.length ≤ 63) : (m_law ⟨ns⟩ (Sto.emp K)).sat fun b _ => b = true := by
  rw [← st_iff]
  unfold m_law
  simp only [st_mb, st_mp, st_mc]
  refine ⟨b62_of (by split <;> omega) (by split <;> omega), ?_⟩
  refine st_forC (Inv := fun rest _ _ => ∀ x ∈ rest, 0 ≤ x) (fun x xs t s hx => ?_) (fun t s _ => ?_) (fun x hx => by have := mem_rng.mp hx; omega)
  · simp only [st_mb, st_mp, st_mi, st_mu]
    have h0 := hx x (List.mem_cons_self ..)
    unfold m__law_cell
    simp only [st_mb, st_mp, st_mi, st_mo]
    refine ⟨fun g => ?_, fun g => ?_⟩
    · have g := of_decide_eq_true g
      obtain ⟨v, ev, _⟩ := atI_some (xs := ns) h0 g
      refine ⟨v, ev, box_ok fun r s1 B => right_ok B fun s2 => ⟨fun g => absurd g (by decide), fun _ => fun y hy => hx y (List.mem_cons_of_mem _ hy)⟩⟩
    · exact box_ok fun r s1 B => right_ok B fun s2 => ⟨fun g => absurd g (by decide), fun _ => fun y hy => hx y (List.mem_cons_of_mem _ hy)⟩
  · show (mp true s).st _
    exact st_mp.mpr rfl
end
end L60

namespace L60
open PySem PySem.Spec PyProof.Rows L2 Mir
theorem facts {P : Program} {w : World} {K : PySem.W.Frag} {h : Heap} {mg : Str → Option Value} {f : Addr} (X : K.In h) (G : h.Ns mainGlobals mg) (hfa : mg ("law" : Str) = some (.ref f)) (c : He.SaysD fa fn K) :
    ∃ fd : FuncData, (∀ (s : Shared) (v : Value), BindsTo s fd ⟨[v], []⟩ [("script", v)]) ∧ ∀ base : Heap, K.In base → base.Ns mainGlobals mg → FnOk P w K mg base CX0 14 f fd ["script"] (sp_law K) := by
  obtain ⟨fd_is_whole, F_is_whole⟩ := c.def_ 0 (d := dD "is_whole" 15) rfl
  have g_is_whole := He.glo_ok X G (c.fact 0 (f := .glo "is_whole") rfl)
  obtain ⟨fd_is_between, F_is_between⟩ := c.def_ 1 (d := dD "is_between" 16) rfl
  have g_is_between := He.glo_ok X G (c.fact 1 (f := .glo "is_between") rfl)
  obtain ⟨fd_is_list, F_is_list⟩ := c.def_ 2 (d := dD "is_list" 17) rfl
  have g_is_list := He.glo_ok X G (c.fact 2 (f := .glo "is_list") rfl)
  obtain ⟨fd_is_tuple_of, F_is_tuple_of⟩ := c.def_ 3 (d := dD "is_tuple_of" 18) rfl
  have g_is_tuple_of := He.glo_ok X G (c.fact 3 (f := .glo "is_tuple_of") rfl)
  obtain ⟨fd_is_rising, F_is_rising⟩ := c.def_ 4 (d := dD "is_rising" 19) rfl
  have g_is_rising := He.glo_ok X G (c.fact 4 (f := .glo "is_rising") rfl)
  obtain ⟨fd_is_prime, F_is_prime⟩ := c.def_ 5 (d := dD "is_prime" 22) rfl
  have g_is_prime := He.glo_ok X G (c.fact 5 (f := .glo "is_prime") rfl)
  obtain ⟨fd_check_prime, F_check_prime⟩ := c.def_ 6 (d := dD "check_prime" 23) rfl
  have g_check_prime := He.glo_ok X G (c.fact 6 (f := .glo "check_prime") rfl)
  obtain ⟨fd_prime_below, F_prime_below⟩ := c.def_ 7 (d := dD "prime_below" 24) rfl
  have g_prime_below := He.glo_ok X G (c.fact 7 (f := .glo "prime_below") rfl)
  obtain ⟨fd_power_of, F_power_of⟩ := c.def_ 8 (d := dD "power_of" 25) rfl
  have g_power_of := He.glo_ok X G (c.fact 8 (f := .glo "power_of") rfl)
  obtain ⟨fd_inverse_of, F_inverse_of⟩ := c.def_ 9 (d := dD "inverse_of" 26) rfl
  have g_inverse_of := He.glo_ok X G (c.fact 9 (f := .glo "inverse_of") rfl)
  obtain ⟨fd_value_at, F_value_at⟩ := c.def_ 10 (d := dD "value_at" 27) rfl
  have g_value_at := He.glo_ok X G (c.fact 10 (f := .glo "value_at") rfl)
  obtain ⟨fd_data_through, F_data_through⟩ := c.def_ 11 (d := dD "data_through" 28) rfl
  have g_data_through := He.glo_ok X G (c.fact 11 (f := .glo "data_through") rfl)
  obtain ⟨fd_number_from, F_number_from⟩ := c.def_ 12 (d := dD "number_from" 29) rfl
  have g_number_from := He.glo_ok X G (c.fact 12 (f := .glo "number_from") rfl)
  obtain ⟨fd_figures, F_figures⟩ := c.def_ 13 (d := dD "figures" 30) rfl
  have g_figures := He.glo_ok X G (c.fact 13 (f := .glo "figures") rfl)
  obtain ⟨fd_word_of, F_word_of⟩ := c.def_ 14 (d := dD "word_of" 34) rfl
  have g_word_of := He.glo_ok X G (c.fact 14 (f := .glo "word_of") rfl)
  obtain ⟨fd_data_of, F_data_of⟩ := c.def_ 15 (d := dD "data_of" 35) rfl
  have g_data_of := He.glo_ok X G (c.fact 15 (f := .glo "data_of") rfl)
  obtain ⟨fd_choose, F_choose⟩ := c.def_ 16 (d := dD "choose" 39) rfl
  have g_choose := He.glo_ok X G (c.fact 16 (f := .glo "choose") rfl)
  obtain ⟨fd_spread, F_spread⟩ := c.def_ 17 (d := dD "spread" 40) rfl
  have g_spread := He.glo_ok X G (c.fact 17 (f := .glo "spread") rfl)
  obtain ⟨fd_telling, F_telling⟩ := c.def_ 18 (d := dD "telling" 41) rfl
  have g_telling := He.glo_ok X G (c.fact 18 (f := .glo "telling") rfl)
  obtain ⟨fd_check_shape, F_check_shape⟩ := c.def_ 19 (d := dD "check_shape" 42) rfl
  have g_check_shape := He.glo_ok X G (c.fact 19 (f := .glo "check_shape") rfl)
  obtain ⟨fd_head_code, F_head_code⟩ := c.def_ 20 (d := dD "head_code" 44) rfl
  have g_head_code := He.glo_ok X G (c.fact 20 (f := .glo "head_code") rfl)
  obtain ⟨fd_are_records, F_are_records⟩ := c.def_ 21 (d := dD "are_records" 46) rfl
  have g_are_records := He.glo_ok X G (c.fact 21 (f := .glo "are_records") rfl)
  obtain ⟨fd_is_lot, F_is_lot⟩ := c.def_ 22 (d := dD "is_lot" 47) rfl
  have g_is_lot := He.glo_ok X G (c.fact 22 (f := .glo "is_lot") rfl)
  obtain ⟨fd_check_lot, F_check_lot⟩ := c.def_ 23 (d := dD "check_lot" 48) rfl
  have g_check_lot := He.glo_ok X G (c.fact 23 (f := .glo "check_lot") rfl)
  obtain ⟨fd_lots_next, F_lots_next⟩ := c.def_ 24 (d := dD "lots_next" 49) rfl
  have g_lots_next := He.glo_ok X G (c.fact 24 (f := .glo "lots_next") rfl)
  obtain ⟨fd_lot_from, F_lot_from⟩ := c.def_ 25 (d := dD "lot_from" 50) rfl
  have g_lot_from := He.glo_ok X G (c.fact 25 (f := .glo "lot_from") rfl)
  obtain ⟨fd_number_of_lot, F_number_of_lot⟩ := c.def_ 26 (d := dD "number_of_lot" 51) rfl
  have g_number_of_lot := He.glo_ok X G (c.fact 26 (f := .glo "number_of_lot") rfl)
  obtain ⟨fd_lot_number, F_lot_number⟩ := c.def_ 27 (d := dD "lot_number" 52) rfl
  have g_lot_number := He.glo_ok X G (c.fact 27 (f := .glo "lot_number") rfl)
  obtain ⟨fd_word_of_lot, F_word_of_lot⟩ := c.def_ 28 (d := dD "word_of_lot" 53) rfl
  have g_word_of_lot := He.glo_ok X G (c.fact 28 (f := .glo "word_of_lot") rfl)
  obtain ⟨fd_head_word, F_head_word⟩ := c.def_ 29 (d := dD "head_word" 54) rfl
  have g_head_word := He.glo_ok X G (c.fact 29 (f := .glo "head_word") rfl)
  obtain ⟨fd_are_heads, F_are_heads⟩ := c.def_ 30 (d := dD "are_heads" 55) rfl
  have g_are_heads := He.glo_ok X G (c.fact 30 (f := .glo "are_heads") rfl)
  obtain ⟨fd_lot_told_by, F_lot_told_by⟩ := c.def_ 31 (d := dD "lot_told_by" 56) rfl
  have g_lot_told_by := He.glo_ok X G (c.fact 31 (f := .glo "lot_told_by") rfl)
  obtain ⟨fd_is_view, F_is_view⟩ := c.def_ 32 (d := dD "is_view" 58) rfl
  have g_is_view := He.glo_ok X G (c.fact 32 (f := .glo "is_view") rfl)
  obtain ⟨fd_check_view, F_check_view⟩ := c.def_ 33 (d := dD "check_view" 59) rfl
  have g_check_view := He.glo_ok X G (c.fact 33 (f := .glo "check_view") rfl)
  obtain ⟨fd_check_long_view, F_check_long_view⟩ := c.def_ 34 (d := dD "check_long_view" 60) rfl
  have g_check_long_view := He.glo_ok X G (c.fact 34 (f := .glo "check_long_view") rfl)
  obtain ⟨fd_told_by, F_told_by⟩ := c.def_ 35 (d := dD "told_by" 61) rfl
  have g_told_by := He.glo_ok X G (c.fact 35 (f := .glo "told_by") rfl)
  obtain ⟨fd_told, F_told⟩ := c.def_ 36 (d := dD "told" 62) rfl
  have g_told := He.glo_ok X G (c.fact 36 (f := .glo "told") rfl)
  obtain ⟨fd_can_be_left, F_can_be_left⟩ := c.def_ 37 (d := dD "can_be_left" 63) rfl
  have g_can_be_left := He.glo_ok X G (c.fact 37 (f := .glo "can_be_left") rfl)
  obtain ⟨fd_mending_by, F_mending_by⟩ := c.def_ 38 (d := dD "mending_by" 64) rfl
  have g_mending_by := He.glo_ok X G (c.fact 38 (f := .glo "mending_by") rfl)
  obtain ⟨fd_mending, F_mending⟩ := c.def_ 39 (d := dD "mending" 65) rfl
  have g_mending := He.glo_ok X G (c.fact 39 (f := .glo "mending") rfl)
  obtain ⟨fd__law_cell, F__law_cell⟩ := c.def_ 40 (d := dD "_law_cell" 67) rfl
  have g__law_cell := He.glo_ok X G (c.fact 40 (f := .glo "_law_cell") rfl)
  obtain ⟨fd__law_box, F__law_box⟩ := c.def_ 41 (d := dD "_law_box" 68) rfl
  have g__law_box := He.glo_ok X G (c.fact 41 (f := .glo "_law_box") rfl)
  obtain ⟨fd__law_take, F__law_take⟩ := c.def_ 42 (d := dD "_law_take" 69) rfl
  have g__law_take := He.glo_ok X G (c.fact 42 (f := .glo "_law_take") rfl)
  obtain ⟨fd__law_power, F__law_power⟩ := c.def_ 43 (d := dD "_law_power" 70) rfl
  have g__law_power := He.glo_ok X G (c.fact 43 (f := .glo "_law_power") rfl)
  obtain ⟨fd__law_choose, F__law_choose⟩ := c.def_ 44 (d := dD "_law_choose" 71) rfl
  have g__law_choose := He.glo_ok X G (c.fact 44 (f := .glo "_law_choose") rfl)
  obtain ⟨fd__law_lot, F__law_lot⟩ := c.def_ 45 (d := dD "_law_lot" 72) rfl
  have g__law_lot := He.glo_ok X G (c.fact 45 (f := .glo "_law_lot") rfl)
  obtain ⟨fd__law_sizes, F__law_sizes⟩ := c.def_ 46 (d := dD "_law_sizes" 73) rfl
  have g__law_sizes := He.glo_ok X G (c.fact 46 (f := .glo "_law_sizes") rfl)
  obtain ⟨fd__law_value, F__law_value⟩ := c.def_ 47 (d := dD "_law_value" 74) rfl
  have g__law_value := He.glo_ok X G (c.fact 47 (f := .glo "_law_value") rfl)
  obtain ⟨fd__law_word, F__law_word⟩ := c.def_ 48 (d := dD "_law_word" 75) rfl
  have g__law_word := He.glo_ok X G (c.fact 48 (f := .glo "_law_word") rfl)
  obtain ⟨fd__law_drawn, F__law_drawn⟩ := c.def_ 49 (d := dD "_law_drawn" 76) rfl
  have g__law_drawn := He.glo_ok X G (c.fact 49 (f := .glo "_law_drawn") rfl)
  obtain ⟨fd__law_rule, F__law_rule⟩ := c.def_ 50 (d := dD "_law_rule" 77) rfl
  have g__law_rule := He.glo_ok X G (c.fact 50 (f := .glo "_law_rule") rfl)
  obtain ⟨fd__law_writes, F__law_writes⟩ := c.def_ 51 (d := dD "_law_writes" 78) rfl
  have g__law_writes := He.glo_ok X G (c.fact 51 (f := .glo "_law_writes") rfl)
  obtain ⟨fd__law_left_view, F__law_left_view⟩ := c.def_ 52 (d := dD "_law_left_view" 79) rfl
  have g__law_left_view := He.glo_ok X G (c.fact 52 (f := .glo "_law_left_view") rfl)
  obtain ⟨fd__law_without, F__law_without⟩ := c.def_ 53 (d := dD "_law_without" 80) rfl
  have g__law_without := He.glo_ok X G (c.fact 53 (f := .glo "_law_without") rfl)
  obtain ⟨fd__law_asked, F__law_asked⟩ := c.def_ 54 (d := dD "_law_asked" 81) rfl
  have g__law_asked := He.glo_ok X G (c.fact 54 (f := .glo "_law_asked") rfl)
  obtain ⟨fd__law_parts_right, F__law_parts_right⟩ := c.def_ 55 (d := dD "_law_parts_right" 82) rfl
  have g__law_parts_right := He.glo_ok X G (c.fact 55 (f := .glo "_law_parts_right") rfl)
  obtain ⟨fd__law_right, F__law_right⟩ := c.def_ 56 (d := dD "_law_right" 83) rfl
  have g__law_right := He.glo_ok X G (c.fact 56 (f := .glo "_law_right") rfl)
  obtain ⟨fd_law, F_law⟩ := c.def_ 57 (d := dD "law" 84) rfl
  have g_law := He.glo_ok X G (c.fact 57 (f := .glo "law") rfl)
  have b_bool := He.free_ok X G (c.fact 58 (f := .free "bool") rfl)
  have b_int := He.free_ok X G (c.fact 59 (f := .free "int") rfl)
  have b_isinstance := He.free_ok X G (c.fact 60 (f := .free "isinstance") rfl)
  have b_list := He.free_ok X G (c.fact 61 (f := .free "list") rfl)
  have b_tuple := He.free_ok X G (c.fact 62 (f := .free "tuple") rfl)
  have b_len := He.free_ok X G (c.fact 63 (f := .free "len") rfl)
  have b_all := He.free_ok X G (c.fact 64 (f := .free "all") rfl)
  have b_range := He.free_ok X G (c.fact 65 (f := .free "range") rfl)
  have b_min := He.free_ok X G (c.fact 66 (f := .free "min") rfl)
  have b_reversed := He.free_ok X G (c.fact 67 (f := .free "reversed") rfl)
  have b_zip := He.free_ok X G (c.fact 68 (f := .free "zip") rfl)
  have b_any := He.free_ok X G (c.fact 69 (f := .free "any") rfl)
  have b_sum := He.free_ok X G (c.fact 70 (f := .free "sum") rfl)
  have b_abs := He.free_ok X G (c.fact 71 (f := .free "abs") rfl)
  have b_dict := He.free_ok X G (c.fact 72 (f := .free "dict") rfl)
  have b_sorted := He.free_ok X G (c.fact 73 (f := .free "sorted") rfl)
  have b_max := He.free_ok X G (c.fact 74 (f := .free "max") rfl)
  have c_MOST_PRIME := He.int_ok X G (c.fact 75 (f := .int "MOST_PRIME" 997) rfl)
  have c_MOST_DISKS := He.int_ok X G (c.fact 76 (f := .int "MOST_DISKS" 12) rfl)
  have c_MOST_RECORDS := He.int_ok X G (c.fact 77 (f := .int "MOST_RECORDS" 24) rfl)
  have c_MOST_SYMBOLS := He.int_ok X G (c.fact 78 (f := .int "MOST_SYMBOLS" 64) rfl)
  obtain ⟨fd_Code, F_Code⟩ := c.def_ 58 (d := ⟨("Code", some "__init__"), "__init__", "Code.__init__", defArgs (inClass (top 33) 0), defBody (inClass (top 33) 0), defScope (inClass (top 33) 0), [], []⟩) rfl
  have g_Code := He.glo_ok X G (c.fact 79 (f := .glo "Code") rfl)
  have M_Code := He.mkr_ok (c.fact 81 (f := .mkr "Code") rfl)
  have L_Code := He.cls_ok (c.fact 80 (f := .cls "Code") rfl)
  have A_Code_prime := He.noat_ok (c.fact 82 (f := .noat "Code" "prime") rfl)
  have A_Code_length := He.noat_ok (c.fact 83 (f := .noat "Code" "length") rfl)
  have A_Code_symbols := He.noat_ok (c.fact 84 (f := .noat "Code" "symbols") rfl)
  have N_Code : ClsN K _ n_Code := ⟨L_Code, fun y hy => by
    simp only [n_Code, List.mem_cons, List.not_mem_nil, or_false] at hy
    rcases hy with rfl | rfl | rfl
    · exact A_Code_prime
    · exact A_Code_length
    · exact A_Code_symbols⟩
  obtain ⟨fd_Array, F_Array⟩ := c.def_ 59 (d := ⟨("Array", some "__init__"), "__init__", "Array.__init__", defArgs (inClass (top 43) 0), defBody (inClass (top 43) 0), defScope (inClass (top 43) 0), [], []⟩) rfl
  have g_Array := He.glo_ok X G (c.fact 85 (f := .glo "Array") rfl)
  have M_Array := He.mkr_ok (c.fact 87 (f := .mkr "Array") rfl)
  have L_Array := He.cls_ok (c.fact 86 (f := .cls "Array") rfl)
  have A_Array_disks := He.noat_ok (c.fact 88 (f := .noat "Array" "disks") rfl)
  have A_Array_lost := He.noat_ok (c.fact 89 (f := .noat "Array" "lost") rfl)
  have A_Array_records := He.noat_ok (c.fact 90 (f := .noat "Array" "records") rfl)
  have A_Array_changes := He.noat_ok (c.fact 91 (f := .noat "Array" "changes") rfl)
  have A_Array_contents := He.noat_ok (c.fact 92 (f := .noat "Array" "contents") rfl)
  have A_Array_need := He.noat_ok (c.fact 93 (f := .noat "Array" "need") rfl)
  have A_Array_lots := He.noat_ok (c.fact 94 (f := .noat "Array" "lots") rfl)
  have A_Array_symbols := He.noat_ok (c.fact 95 (f := .noat "Array" "symbols") rfl)
  have A_Array_prime := He.noat_ok (c.fact 96 (f := .noat "Array" "prime") rfl)
  have A_Array_heads := He.noat_ok (c.fact 97 (f := .noat "Array" "heads") rfl)
  have N_Array : ClsN K _ n_Array := ⟨L_Array, fun y hy => by
    simp only [n_Array, List.mem_cons, List.not_mem_nil, or_false] at hy
    rcases hy with rfl | rfl | rfl | rfl | rfl | rfl | rfl | rfl | rfl | rfl
    · exact A_Array_disks
    · exact A_Array_lost
    · exact A_Array_records
    · exact A_Array_changes
    · exact A_Array_contents
    · exact A_Array_need
    · exact A_Array_lots
    · exact A_Array_symbols
    · exact A_Array_prime
    · exact A_Array_heads⟩
  have e := hfa.symm.trans g_law
  cases e
  have b := FunD.bindsA (ps := ["script"]) F_law fun _ _ _ _ _ _ us hl => match us, hl with | [_], _ => rfl
  refine ⟨fd_law, fun s v => b s [v] rfl, fun base _ _ => ?_⟩
  have C_is_whole := ok_is_whole (P := P) (w := w) (base := base) F_is_whole g_is_whole b_bool b_int b_isinstance
  have C_is_between := ok_is_between (P := P) (w := w) (base := base) F_is_between g_is_between C_is_whole
  have C_is_list__P := ok_is_list__P (P := P) (w := w) (base := base) F_is_list g_is_list b_isinstance b_list b_tuple
  have C_is_list__I := ok_is_list__I (P := P) (w := w) (base := base) F_is_list g_is_list b_isinstance b_list b_tuple
  have C_is_tuple_of := ok_is_tuple_of (P := P) (w := w) (base := base) F_is_tuple_of g_is_tuple_of b_isinstance b_len b_tuple
  have C_is_rising := ok_is_rising (P := P) (w := w) (base := base) F_is_rising g_is_rising b_all b_len b_range
  have C_is_prime := ok_is_prime (P := P) (w := w) (base := base) F_is_prime g_is_prime b_all b_min b_range c_MOST_PRIME C_is_between
  have C_check_prime := ok_check_prime (P := P) (w := w) (base := base) F_check_prime g_check_prime C_is_prime
  have C_prime_below := ok_prime_below (P := P) (w := w) (base := base) F_prime_below g_prime_below C_is_prime
  have C_power_of := ok_power_of (P := P) (w := w) (base := base) F_power_of g_power_of
  have C_inverse_of := ok_inverse_of (P := P) (w := w) (base := base) F_inverse_of g_inverse_of C_power_of
  have C_value_at := ok_value_at (P := P) (w := w) (base := base) F_value_at g_value_at b_reversed
  have C_data_through := ok_data_through (P := P) (w := w) (base := base) F_data_through g_data_through b_tuple b_zip C_value_at C_inverse_of
  have C_number_from := ok_number_from (P := P) (w := w) (base := base) F_number_from g_number_from
  have C_figures := ok_figures (P := P) (w := w) (base := base) F_figures g_figures b_range b_reversed b_tuple
  have C_word_of := ok_word_of (P := P) (w := w) (base := base) F_word_of g_word_of b_range b_tuple C_value_at
  have C_data_of := ok_data_of (P := P) (w := w) (base := base) F_data_of g_data_of C_data_through
  have C_choose := ok_choose (P := P) (w := w) (base := base) F_choose g_choose b_range
  have C_spread := ok_spread (P := P) (w := w) (base := base) F_spread g_spread
  have C_telling := ok_telling (P := P) (w := w) (base := base) F_telling g_telling C_prime_below C_spread
  have C_check_shape := ok_check_shape (P := P) (w := w) (base := base) F_check_shape g_check_shape c_MOST_DISKS c_MOST_RECORDS C_is_between
  have K_Code := ok_Code (P := P) (w := w) (base := base) F_Code g_Code M_Code N_Code b_min c_MOST_SYMBOLS C_check_prime C_is_between
  have C_head_code := ok_head_code (P := P) (w := w) (base := base) F_head_code g_head_code K_Code
  have C_are_records := ok_are_records (P := P) (w := w) (base := base) F_are_records g_are_records b_all b_len C_is_list__I C_is_between C_is_rising
  have C_is_lot := ok_is_lot (P := P) (w := w) (base := base) F_is_lot g_is_lot C_are_records
  have C_check_lot := ok_check_lot (P := P) (w := w) (base := base) F_check_lot g_check_lot C_is_lot
  have C_lots_next := ok_lots_next (P := P) (w := w) (base := base) F_lots_next g_lots_next C_choose
  have C_lot_from := ok_lot_from (P := P) (w := w) (base := base) F_lot_from g_lot_from b_len b_range C_lots_next
  have C_number_of_lot := ok_number_of_lot (P := P) (w := w) (base := base) F_number_of_lot g_number_of_lot b_range C_lots_next
  have C_lot_number := ok_lot_number (P := P) (w := w) (base := base) F_lot_number g_lot_number C_check_lot C_number_of_lot
  have C_word_of_lot := ok_word_of_lot (P := P) (w := w) (base := base) F_word_of_lot g_word_of_lot b_tuple C_number_of_lot C_word_of C_head_code C_figures
  have C_head_word := ok_head_word (P := P) (w := w) (base := base) F_head_word g_head_word C_check_lot C_word_of_lot
  have C_are_heads := ok_are_heads (P := P) (w := w) (base := base) F_are_heads g_are_heads b_all C_is_list__P C_is_tuple_of C_is_between C_is_rising
  have C_lot_told_by := ok_lot_told_by (P := P) (w := w) (base := base) F_lot_told_by g_lot_told_by C_lot_from C_number_from C_data_of C_head_code
  have C_is_view := ok_is_view (P := P) (w := w) (base := base) F_is_view g_is_view C_are_heads
  have C_check_view := ok_check_view (P := P) (w := w) (base := base) F_check_view g_check_view C_is_view
  have C_check_long_view := ok_check_long_view (P := P) (w := w) (base := base) F_check_long_view g_check_long_view b_len C_check_view
  have C_told_by := ok_told_by (P := P) (w := w) (base := base) F_told_by g_told_by b_any C_lot_told_by
  have C_told := ok_told (P := P) (w := w) (base := base) F_told g_told C_check_long_view C_told_by
  have D_told__array_view := okK_told__array_view (P := P) (w := w) (base := base) F_told g_told C_check_long_view C_told_by
  have C_can_be_left := ok_can_be_left (P := P) (w := w) (base := base) F_can_be_left g_can_be_left b_all b_len b_range C_check_view C_check_lot C_word_of_lot
  have C_mending_by := ok_mending_by (P := P) (w := w) (base := base) F_mending_by g_mending_by C_told_by C_word_of_lot
  have C_mending := ok_mending (P := P) (w := w) (base := base) F_mending g_mending C_check_long_view C_mending_by
  have D_mending__view_array := okK_mending__view_array (P := P) (w := w) (base := base) F_mending g_mending C_check_long_view C_mending_by
  have C__law_cell := ok__law_cell (P := P) (w := w) (base := base) F__law_cell g__law_cell b_int b_len b_sum
  have C__law_box := ok__law_box (P := P) (w := w) (base := base) F__law_box g__law_box b_abs b_int
  have C__law_take := ok__law_take (P := P) (w := w) (base := base) F__law_take g__law_take b_int
  have C__law_power := ok__law_power (P := P) (w := w) (base := base) F__law_power g__law_power b_range
  have C__law_choose := ok__law_choose (P := P) (w := w) (base := base) F__law_choose g__law_choose b_range
  have C__law_lot := ok__law_lot (P := P) (w := w) (base := base) F__law_lot g__law_lot b_len b_range C__law_choose
  have C__law_sizes := ok__law_sizes (P := P) (w := w) (base := base) F__law_sizes g__law_sizes b_range C__law_choose C__law_power
  have C__law_value := ok__law_value (P := P) (w := w) (base := base) F__law_value g__law_value b_int
  have C__law_word := ok__law_word (P := P) (w := w) (base := base) F__law_word g__law_word b_int b_range b_tuple C__law_value
  have C__law_drawn := ok__law_drawn (P := P) (w := w) (base := base) F__law_drawn g__law_drawn b_len C__law_take C__law_sizes
  have C__law_rule := ok__law_rule (P := P) (w := w) (base := base) F__law_rule g__law_rule
  have C__law_writes := ok__law_writes (P := P) (w := w) (base := base) F__law_writes g__law_writes
  have C__law_left_view := ok__law_left_view (P := P) (w := w) (base := base) F__law_left_view g__law_left_view b_len b_range C__law_take
  have C__law_without := ok__law_without (P := P) (w := w) (base := base) F__law_without g__law_without
  have C__law_asked := ok__law_asked (P := P) (w := w) (base := base) F__law_asked g__law_asked b_list b_tuple C__law_rule C_told D_told__array_view C_mending D_mending__view_array C__law_writes C_can_be_left
  have C__law_parts_right := ok__law_parts_right (P := P) (w := w) (base := base) F__law_parts_right g__law_parts_right b_len b_list b_range C__law_take C_told C_mending
  have K_Array := ok_Array (P := P) (w := w) (base := base) F_Array g_Array M_Array N_Array C_check_shape C_is_prime C_choose C_telling C_spread
  have C__law_right := ok__law_right (P := P) (w := w) (base := base) F__law_right g__law_right b_dict b_len b_list b_range b_sorted b_tuple C__law_drawn C__law_take C__law_word C__law_lot C_head_word C_lot_number C__law_left_view C__law_without C__law_asked C_told C__law_writes C__law_rule C__law_parts_right K_Array
  exact fo_law F_law b_len b_max b_min b_range C__law_right C__law_box C__law_cell
theorem ov_emp (H : Hp) : ov emp H = H := rfl
theorem sp_law_ok {K : PySem.W.Frag} (H : Hp) (a : Addr) (ns : List Int) (hl : ns.length ≤ 63) (hS : SqL K H a (ns.map V.int)) : sp_law K [.ref a] H (fun v _ => v = .bl true) fun _ _ _ => False :=
  ⟨⟨ns⟩, Sto.emp K, H, emp, emp, rfl, fun _ => .inl rfl, ⟨emp, fun _ => rfl, fun _ => .inl rfl, .im ⟨a, rfl, hS⟩ .nil⟩, R.sat_imp (law_ok hl) fun b s' hb v H' I' N' _ _ hr => by
    have h : v = V.bl b := hr.2.2
    rw [h, hb]⟩
end L60
open PySem PySem.W PySem.Calls PyProof.Rows
theorem PySem.Challenge.cw_sparesum_k60_whole_mending_again_and_aga_holds : PySem.Challenge.rw_sparesum_k60_whole_mending_again_and_aga.Holds := by
  w_on; o_law
  refine HandSHeadRun.head_any (r := OpenLaw.row PySem.Challenge.rw_sparesum_k60_whole_mending_again_and_aga) (q := view (OpenLaw.row PySem.Challenge.rw_sparesum_k60_whole_mending_again_and_aga).prog [84]) (H := L60.hk) (ob := L60.ob) (M := 20000) (loose := L60.names) (d := HandSHeadRun.topDef (OpenLaw.row PySem.Challenge.rw_sparesum_k60_whole_mending_again_and_aga).prog 84) (kwd := []) L60.ob_eq
    (by kernel_rfl) (fun s => by kernel_rfl) L60.run (by kernel_rfl) (by kernel_rfl) (by kernel_rfl) (by rfl) (by first | assumption | decide +kernel) (by decide +kernel) ⟨rfl, rfl, rfl, rfl, rfl, by decide +kernel⟩ ?hw ?hc
  case hw => w_witness2
  case hc =>
    refine L2.walk_ofE (l := PySem.Challenge.rw_sparesum_k60_whole_mending_again_and_aga) (n := 63) (k := 14) (x := "script") (CX := L2.CX0) rfl (by decide) (by kernel_rfl) ⟨rfl, by decide, by decide⟩ ?F (fun _ _ _ _ z => z)
    intro w mg fa h Y G hmg0
    obtain ⟨K, KX, c⟩ := Y
    have hmg : mg ("law" : PySem.Str) = some (.ref fa) := by
      have e : (HandSHeadRun.topDef (OpenLaw.row PySem.Challenge.rw_sparesum_k60_whole_mending_again_and_aga).prog 84).name = ("law" : PySem.Str) := by kernel_rfl
      rw [← e]
      exact hmg0
    obtain ⟨fd, hb, hF⟩ := L60.facts (P := (PySem.Challenge.rw_sparesum_k60_whole_mending_again_and_aga).prog) (w := w) KX G hmg c
    exact ⟨K, fd, L60.sp_law K, KX, hb, fun H a ns hl _ hS => L60.sp_law_ok H a ns hl hS, hF⟩
